/- Functions of the program and the equations that they compute; The layer of data and running functions, and its rules; Plain theory of terms and what the equations of the functions come to; nothing is assumed. -/
import Derived.Test.YtcbfefbocpikoaaGreatInd
import Derived.WalkKit
import Derived.KernelRfl
import Derived.Shelf.SlSortCmp.NoneTotal
import Derived.Below
import Derived.Maps.AppendAt
import Derived.OwnWalk
import Derived.Lib.LazyBuf
set_option linter.unusedSimpArgs false
set_option linter.unusedVariables false
set_option linter.unusedSectionVars false
set_option linter.unnecessarySimpa false
namespace Go.Proofs.YtcbfefbocpikoaaGreat
open Go Go.RowKit Go.Proofs
def RdN (w : World) (A : Option Addr) (xs : List Int) : Prop := ∀ j x, xs[j]? = some x → ∃ ad, A = some ad ∧ w.cell? (ad.add j) = some (.int .i64 x)
def lexI : List Int → List Int → Int
  | [], [] => 0
  | [], _ :: _ => -1
  | _ :: _, [] => 1
  | x :: xs, y :: ys => if x < y then -1 else if y < x then 1 else lexI xs ys
def cmpT (a b : List Int) : Int := if a.length = b.length then lexI a b else (a.length : Int) - b.length
set_option maxHeartbeats 1000000 in
theorem cmp_walk (x y : Int) (w : World) : Calls Tryz.prog 146 #[.int .i64 x, .int .i64 y] w fun e w' => e = .returned (.int .i64 (if x < y then -1 else if y < x then 1 else 0)) ∧ w' = w := by
  have N : ∀ (z : Int) (w : World), Calls Tryz.prog 162 #[.int .i64 z] w fun e w' => e = .returned (.bool false) ∧ w' = w := fun z w => by
    go_enter Tryz.func162, Tryz.ntmps162
    go_wp2
    go_ret
    exact ⟨by simp, rfl⟩
  go_enter Tryz.func146, Tryz.ntmps146
  go_wp2_with (go_at_call 162; refine (N _ _).mono ?_; rintro e w' ⟨rfl, rfl⟩)
  all_goals (go_ret; refine ⟨?_, rfl⟩)
  · simp [*]
  · have : ¬ x < y := by omega
    simp [*]
  · have h1 : ¬ x < y := by omega
    have h2 : ¬ y < x := by omega
    simp [*]
set_option maxHeartbeats 4000000 in
theorem lex_walk (xs ys : List Int) (A B : Option Addr) (ca cb : Nat) (w : World) (hx : RdN w A xs) (hy : RdN w B ys) (h1 : xs.length < 2 ^ 62) (h2 : ys.length < 2 ^ 62) :
    Calls Tryz.prog 121 #[.slice A xs.length ca, .slice B ys.length cb] w fun e w' => e = .returned (.int .i64 (lexI xs ys)) ∧ w' = w := by
  go_enter Tryz.func121, Tryz.ntmps121
  go_wp2
  go_loopw [11] (fun i wr => ∃ q : Nat, i = .int .i64 q ∧ q ≤ xs.length ∧ q ≤ ys.length ∧ wr = w ∧ lexI xs ys = lexI (xs.drop q) (ys.drop q)) (fun i _ => (xs.length - intOf i).toNat)
  case atStart => exact ⟨0, rfl, by omega, by omega, rfl, by simp⟩
  case round =>
    obtain ⟨q, rfl, hq, hq2, rfl, hl⟩ := hrel
    by_cases ha : q < xs.length
    · obtain ⟨ad, rfl, cx⟩ := hx q _ (List.getElem?_eq_getElem ha)
      by_cases hb : q < ys.length
      · obtain ⟨bd, rfl, cy⟩ := hy q _ (List.getElem?_eq_getElem hb)
        have hl' : lexI xs ys = if xs[q] < ys[q] then -1 else if ys[q] < xs[q] then 1 else lexI (xs.drop (q + 1)) (ys.drop (q + 1)) := by
          rw [hl, List.drop_eq_getElem_cons ha, List.drop_eq_getElem_cons hb]; rfl
        clear hl hx hy
        generalize xs[q] = x at *
        generalize ys[q] = y at *
        rcases Int.lt_trichotomy x y with h | h | h
        · have C := fun w => cmp_walk x y w
          simp only [if_pos h] at C hl'
          go_wp2_with (go_at_call 146; refine (C _).mono ?_; rintro e w' ⟨rfl, rfl⟩)
          go_ret
          exact ⟨by rw [hl']; rfl, rfl⟩
        · subst h
          have C := fun w => cmp_walk x x w
          simp only [Int.lt_irrefl, if_false] at C hl'
          go_wp2_with (go_at_call 146; refine (C _).mono ?_; rintro e w' ⟨rfl, rfl⟩)
          go_roundw
          case rel => exact ⟨q + 1, by go_num, by omega, by omega, by trivial, hl'⟩
          case measure => simp [intOf]; omega
        · have C := fun w => cmp_walk x y w
          simp only [if_neg (show ¬ x < y by omega), if_pos h] at C hl'
          go_wp2_with (go_at_call 146; refine (C _).mono ?_; rintro e w' ⟨rfl, rfl⟩)
          go_ret
          exact ⟨by rw [hl']; rfl, rfl⟩
      · have e : lexI xs ys = 1 := by
          rw [hl, List.drop_eq_getElem_cons ha, List.drop_of_length_le (show ys.length ≤ q by omega)]; rfl
        have : q = ys.length := by omega
        subst this
        go_wp2
        go_ret
        exact ⟨by rw [e]; rfl, rfl⟩
    · have : q = xs.length := by omega
      subst this
      rw [List.drop_length] at hl
      by_cases hb : xs.length < ys.length
      · have e : lexI xs ys = -1 := by rw [hl, List.drop_eq_getElem_cons hb]; rfl
        go_wp2
        go_ret
        exact ⟨by rw [e]; rfl, rfl⟩
      · have e : lexI xs ys = 0 := by rw [hl, List.drop_of_length_le (by omega)]; rfl
        go_wp2
        go_ret
        exact ⟨by rw [e]; rfl, rfl⟩
set_option maxHeartbeats 2000000 in
set_option maxRecDepth 100000 in
theorem cmpT_walk (xs ys : List Int) (A B : Option Addr) (ca cb : Nat) (w : World) (hx : RdN w A xs) (hy : RdN w B ys) (h1 : xs.length < 2 ^ 62) (h2 : ys.length < 2 ^ 62) :
    Calls Tryz.prog 94 #[.slice A xs.length ca, .slice B ys.length cb] w fun e w' => e = .returned (.int .i64 (cmpT xs ys)) ∧ w' = w := by
  have L := lex_walk xs ys A B ca cb w hx hy h1 h2
  clear hx hy
  have C : cmpT xs ys = if xs.length = ys.length then lexI xs ys else (xs.length : Int) - ys.length := rfl
  generalize cmpT xs ys = c at C ⊢
  generalize lexI xs ys = l at C L
  generalize xs.length = n at *
  generalize ys.length = m at *
  clear xs ys
  by_cases h : n = m
  · subst h
    rw [if_pos rfl] at C
    subst C
    go_enter Tryz.func94, Tryz.ntmps94
    go_wp2_with (go_at_call 121; refine L.mono ?_; rintro e w' ⟨rfl, rfl⟩)
    go_ret
    exact ⟨rfl, rfl⟩
  · rw [if_neg h] at C
    subst C
    clear L
    go_enter Tryz.func94, Tryz.ntmps94
    go_wp2
    go_ret
    exact ⟨rfl, rfl⟩
end Go.Proofs.YtcbfefbocpikoaaGreat
namespace Go.Proofs.YtcbfefbocpikoaaGreat
open Go Go.RowKit Go.Proofs
theorem lexI_self : ∀ a : List Int, lexI a a = 0
  | [] => rfl
  | x :: xs => by simp [lexI, lexI_self xs]
theorem lexI_neg : ∀ a b : List Int, lexI b a = - lexI a b
  | [], [] => rfl
  | [], _ :: _ => rfl
  | _ :: _, [] => rfl
  | x :: xs, y :: ys => by
    simp only [lexI]
    have := lexI_neg xs ys
    repeat' split
    all_goals first | rfl | omega
theorem lexI_zero : ∀ {a b : List Int}, lexI a b = 0 → a = b
  | [], [], _ => rfl
  | [], _ :: _, h => by simp [lexI] at h
  | _ :: _, [], h => by simp [lexI] at h
  | x :: xs, y :: ys, h => by
    simp only [lexI] at h
    split at h
    · omega
    · split at h
      · omega
      · rw [lexI_zero h, show x = y by omega]
theorem lexI_trans : ∀ {a b c : List Int}, lexI a b ≤ 0 → lexI b c ≤ 0 → lexI a c ≤ 0 ∧ (lexI a b < 0 ∨ lexI b c < 0 → lexI a c < 0)
  | [], [], c, h1, h2 => ⟨h2, fun h => h.elim (fun h => by simp [lexI] at h) id⟩
  | [], _ :: _, [], h1, h2 => by simp [lexI] at h2
  | [], _ :: _, _ :: _, h1, h2 => by simp [lexI]
  | _ :: _, [], _, h1, h2 => by simp [lexI] at h1
  | _ :: _, _ :: _, [], h1, h2 => by simp [lexI] at h2
  | x :: xs, y :: ys, z :: zs, h1, h2 => by
    have ih := fun h1 h2 => lexI_trans (a := xs) (b := ys) (c := zs) h1 h2
    simp only [lexI] at h1 h2 ⊢
    by_cases h3 : x < y
    · by_cases h4 : y < z
      · rw [if_pos (show x < z by omega)]; omega
      · rw [if_neg h4] at h2
        by_cases h5 : z < y
        · rw [if_pos h5] at h2; omega
        · rw [if_pos (show x < z by omega)]; omega
    · rw [if_neg h3] at h1 ⊢
      by_cases h5 : y < x
      · rw [if_pos h5] at h1; omega
      · rw [if_neg h5] at h1 ⊢
        obtain rfl : x = y := by omega
        by_cases h4 : x < z
        · rw [if_pos h4]; omega
        · by_cases h6 : z < x
          · rw [if_neg h4, if_pos h6] at h2; omega
          · simp only [if_neg h6, if_neg h4] at h2 ⊢
            exact ih h1 h2
theorem cmpT_self (a : List Int) : cmpT a a = 0 := by unfold cmpT; rw [if_pos rfl, lexI_self]
theorem cmpT_neg (a b : List Int) : cmpT b a = - cmpT a b := by
  unfold cmpT
  by_cases h : a.length = b.length
  · rw [if_pos h, if_pos h.symm, lexI_neg]
  · rw [if_neg h, if_neg (fun e => h e.symm)]; omega
theorem cmpT_zero {a b : List Int} (h : cmpT a b = 0) : a = b := by
  unfold cmpT at h
  split at h
  · exact lexI_zero h
  · omega
theorem cmpT_trans {a b c : List Int} (h1 : cmpT a b ≤ 0) (h2 : cmpT b c ≤ 0) : cmpT a c ≤ 0 ∧ (cmpT a b < 0 ∨ cmpT b c < 0 → cmpT a c < 0) := by
  unfold cmpT at *
  by_cases h : a.length = b.length
  · rw [if_pos h] at h1 ⊢
    by_cases h' : b.length = c.length
    · rw [if_pos h'] at h2 ⊢
      rw [if_pos (h.trans h')]
      exact lexI_trans h1 h2
    · rw [if_neg h'] at h2 ⊢
      rw [if_neg (by omega)]; omega
  · rw [if_neg h] at h1 ⊢
    by_cases h' : b.length = c.length
    · rw [if_pos h'] at h2 ⊢
      rw [if_neg (by omega)]; omega
    · rw [if_neg h'] at h2 ⊢
      rw [if_neg (by omega)]; omega
def sortT (xs : List (List Int)) : List (List Int) := xs.mergeSort fun a b => decide (cmpT a b ≤ 0)
theorem sortT_perm (xs : List (List Int)) : (sortT xs).Perm xs := List.mergeSort_perm _ _
theorem sortT_len {xs : List (List Int)} : (sortT xs).length = xs.length := (sortT_perm xs).length_eq
theorem sortT_sorted (xs : List (List Int)) : (sortT xs).Pairwise fun a b => cmpT a b ≤ 0 := by
  refine (List.pairwise_mergeSort (le := fun a b => decide (cmpT a b ≤ 0)) (fun a b c h1 h2 => ?_) (fun a b => ?_) xs).imp (fun h => of_decide_eq_true h)
  · exact decide_eq_true (cmpT_trans (of_decide_eq_true h1) (of_decide_eq_true h2)).1
  · have := cmpT_neg a b
    simp only [Bool.or_eq_true, decide_eq_true_eq]; omega
theorem sorted_uniq {l l' : List (List Int)} (hp : l.Perm l') (h : l.Pairwise fun a b => cmpT a b ≤ 0) (h' : l'.Pairwise fun a b => cmpT a b ≤ 0) : l = l' := by
  refine List.Perm.eq_of_pairwise (fun a b _ _ h1 h2 => ?_) h h' hp
  have := cmpT_neg a b
  exact cmpT_zero (by omega)
end Go.Proofs.YtcbfefbocpikoaaGreat
namespace Go.Proofs.YtcbfefbocpikoaaGreat
open Go Go.RowKit Go.Proofs Go.Shelf Go.Lib Go.Sort
structure El (w : World) (blk : Nat) where
  v : Value
  xs : List Int
  ok : ∃ A cap, v = .slice A xs.length cap ∧ xs.length < 2 ^ 62 ∧ ∀ j x, xs[j]? = some x → ∃ ad : Addr, A = some ad ∧ ad.block ≠ blk ∧ ad.block < w.heap.size ∧ w.cell? (ad.add j) = some (.int .i64 x)
instance {w : World} {blk : Nat} : Inhabited (El w blk) := ⟨⟨.slice none 0 0, [], none, 0, rfl, by decide, fun j x h => by simp at h⟩⟩
theorem blk_add' (a : Addr) (n : Nat) : (a.add n).block = a.block := by unfold Addr.add; split <;> rfl
theorem el_rd {w : World} {blk : Nat} (x : El w blk) (n m : Nat) (d : Array (El w blk)) (os : Array Obj) : ∃ A cap, x.v = .slice A x.xs.length cap ∧ x.xs.length < 2 ^ 62 ∧ RdN (sortWorld El.v w blk 0 m d os) A x.xs := by
  obtain ⟨A, cap, h1, h2, h3⟩ := x.ok
  refine ⟨A, cap, h1, h2, fun j y hj => ?_⟩
  obtain ⟨ad, h4, h5, h6, h7⟩ := h3 j y hj
  refine ⟨ad, h4, ?_⟩
  unfold sortWorld
  rw [cell?_grow _ _ _ (by rw [size_putRow, blk_add']; exact h6), cell?_putRow_other _ _ _ _ _ _ (.inl (by rw [blk_add']; exact h5))]
  exact h7
theorem swo_cmp {w : World} {blk : Nat} : SWO (ltOf fun x y : El w blk => cmpT x.xs y.xs) where
  irrefl x := by simp [ltOf, cmpT_self]
  trans x y z h1 h2 := by
    simp only [ltOf, decide_eq_true_eq] at *
    exact (cmpT_trans (by omega) (by omega)).2 (.inl h1)
  ntrans x y z h1 h2 := by
    simp only [ltOf, decide_eq_false_iff_not] at *
    have g1 := cmpT_neg x.xs y.xs
    have g2 := cmpT_neg y.xs z.xs
    have g3 := cmpT_neg x.xs z.xs
    have := (cmpT_trans (a := z.xs) (b := y.xs) (c := x.xs) (by omega) (by omega)).1
    omega
theorem getI {α : Type} [Inhabited α] {d : Array α} {i : Nat} (h : i < d.size) : d[i]! = d[i] := getElem!_pos d i h
theorem sort_walk {w : World} {blk cap : Nat} {d : Array (El w blk)} (hH : Holds El.v w blk 0 d) (hblk : blk < w.heap.size) (hsz : d.size < 4611686018427387904) :
    Calls Tryz.prog 93 #[.slice (some ⟨blk, 0, none⟩) d.size cap, .func (.func 94) #[] #[]] w fun e w' => e = .returned (.tuple #[]) ∧
      ∃ (d' : Array (El w blk)) (n : Nat) (os : Array Obj), w' = sortWorld El.v w blk 0 n d' os ∧ d'.size = d.size ∧ d'.toList.Perm d.toList ∧ d'.toList.map El.xs = sortT (d.toList.map El.xs) := by
  have eg : ∀ args w, (callFunc 94 args).run Tryz.prog w = .ok (.enter 94 args) w := enters_of Tryz.func94 (by kernel_rfl) rfl
  refine (Tryz.slices_SortFunc El.v (fun x => by obtain ⟨A, cap, h, _⟩ := x.ok; rw [h]; rfl) (fun x y => cmpT x.xs y.xs) swo_cmp 94 #[] blk 0 cap d w eg (fun m os dk hs x y => ?_) hH hblk hsz).mono ?_
  · obtain ⟨A, ca, h1, h2, h3⟩ := el_rd x 0 m dk os
    obtain ⟨B, cb, k1, k2, k3⟩ := el_rd y 0 m dk os
    rw [h1, k1]
    refine (cmpT_walk x.xs y.xs A B ca cb _ h3 k3 h2 k2).mono ?_
    rintro e w' ⟨rfl, rfl⟩
    exact ⟨rfl, 0, #[], by rw [grow_empty]; rfl⟩
  · rintro e w' ⟨rfl, d', n, os, hp, hs, rfl⟩
    obtain ⟨p1, p2, p3⟩ := hp
    have p5 : d'.toList.Perm d.toList := by
      have e1 : d'.extract 0 d.size = d' := by rw [← p1]; simp
      have e2 : d.extract 0 d.size = d := by simp
      rw [e1, e2] at p3
      exact p3
    refine ⟨rfl, d', n, os, rfl, p1, p5, ?_⟩
    have p4 : (d'.toList.map El.xs).Perm (d.toList.map El.xs) := p5.map _
    refine sorted_uniq (p4.trans (sortT_perm _).symm) ?_ (sortT_sorted _)
    rw [List.pairwise_map, List.pairwise_iff_getElem]
    intro i j hi hj hij
    have hj' : j < d'.size := by simpa using hj
    have hi' : i < d'.size := by omega
    have := hs i j (Nat.zero_le _) hij (by omega)
    rw [getI hj', getI hi'] at this
    simp only [ltOf, decide_eq_false_iff_not] at this
    have g := cmpT_neg d'[i].xs d'[j].xs
    show cmpT d'.toList[i].xs d'.toList[j].xs ≤ 0
    simp only [Array.getElem_toList]
    omega
end Go.Proofs.YtcbfefbocpikoaaGreat
namespace Abx
open Go
section
variable {α γ : Type} {P : Program} {k0 f : Nat} {args env : List AV} {s : Sto} {d : Option Nat} {R : List AV → Sto → Prop} {x : Option α} {β : Type} {K : α → Option β} {r : β} {q : α → Prop}
end
end Abx
namespace Go.Proofs.YtcbfefbocpikoaaGreat
open Go Abx Go.RowKit Go.Sort Go.Shelf
attribute [go_sem, simp] sortT_len
def F_sortT (xs : List (List Int)) : Option Unit := if xs.length < 4611686018427387904 ∧ ∀ x ∈ xs, x.length < 4611686018427387904 then some () else none
theorem groL_len1 : ∀ (xs : List (List Int)), (groL (slD 1 iD) xs).length = xs.length
  | [] => rfl
  | x :: xs => by rw [groL_cons, List.length_append, groL_len1 xs]; simp [slD, dcells]; omega
theorem cells_el {O : Abx.Own} {w : World} {b : Nat} (hO : ∀ o, O b o) : ∀ {xs : List (List Int)} {vs : List Value}, (∀ x ∈ xs, x.length < 4611686018427387904) → D.oks O w (groL (slD 1 iD) xs) vs →
    ∃ d : List (El w b), d.map El.v = vs ∧ d.map El.xs = xs ∧ ∀ x ∈ d, D.ok O w (slD 1 iD x.xs) x.v
  | [], vs, _, h => by simp only [groL_nil, D.oks] at h; exact ⟨[], by simp [h], rfl, fun x hx => by cases hx⟩
  | x :: xs, vs, hl, h => by
    rw [groL_cons] at h
    simp only [slD, dcells, List.singleton_append, D.oks] at h
    obtain ⟨v, r, rfl, _, h1, h2⟩ := h
    obtain ⟨d, h3, h4, h9⟩ := cells_el hO (fun y hy => hl y (by simp [hy])) h2
    have h1' : D.ok O w (slD 1 iD x) v := h1
    have h10 := h1'
    simp only [slD, D.ok, List.length_map] at h1'
    obtain ⟨A, cap, rfl, _, _, hr⟩ := h1'
    refine ⟨⟨.slice A x.length cap, x, A, cap, rfl, hl x (by simp), fun j y hj => ?_⟩ :: d, by simp [h3], by simp [h4], fun y hy => ?_⟩
    rotate_left
    · rcases List.mem_cons.1 hy with rfl | hy
      · exact h10
      · exact h9 y hy
    rcases hr with hr | ⟨b', o, rfl, hr⟩
    · simp at hr; subst hr; simp at hj
    · obtain ⟨us, k1, k2, k3⟩ := row_get hr (i := j) (x := iD y) (by simp [hj])
      simp only [D.cel, D.ok] at k3
      obtain ⟨u, rfl, rfl, _⟩ := k3
      have k4 := k2 0 _ rfl
      simp only [Nat.mul_one, Nat.add_zero] at k4
      refine ⟨⟨b', o, none⟩, rfl, fun e => k4.2.1 (by rw [show b' = b from e]; exact hO _), cell_lt k4.1, ?_⟩
      unfold Addr.add
      split
      · rename_i hz; subst hz; simpa using k4.1
      · exact k4.1
theorem els_oks {O : Abx.Own} {w : World} {b : Nat} {O' : Abx.Own} {w' : World} : ∀ (d : List (El w b)), (∀ x ∈ d, D.ok O' w' (slD 1 iD x.xs) x.v) → D.oks O' w' (groL (slD 1 iD) (d.map El.xs)) (d.map El.v)
  | [], _ => by simp [groL_nil, D.oks]
  | x :: d, h => by
    simp only [List.map_cons, groL_cons, slD, dcells, List.singleton_append, D.oks]
    refine ⟨_, _, rfl, ?_, h x (by simp), els_oks (O := O) d fun y hy => h y (by simp [hy])⟩
    obtain ⟨A, cap, e, _⟩ := x.ok
    rw [e]; rfl
set_option maxHeartbeats 1000000 in
instance c_sortT {xs : List (List Int)} : HasC (F_sortT xs) fun _ => ACalls Tryz.prog 93 [.gow 1 0 xs.length, .fn 94 [] []] [(0, .gro 22 1 xs.length (groL (slD 1 iD) xs))] 1 fun xx ss => xx = .tup [] ∧ ss = [(0, .gro 22 1 xs.length (groL (slD 1 iD) (sortT xs)))] := ⟨fun {rr} h => by
  unfold F_sortT at h
  split at h
  · rename_i hl
    intro C vs hs hk hinv hargs
    have hst : St C C.β [] C.s { tmps := #[], defers := [] } C.w := ⟨.nil, hinv, rfl, fun i x hx => by simp at hx⟩
    have ho := hinv.obs 0
    rw [show sat C.s 0 = .gro 22 1 xs.length (groL (slD 1 iD) xs) by rw [hs]; rfl] at ho
    obtain ⟨u, hβ, hlen, hg⟩ := ho
    have hdead : ∀ id, id ≠ 0 → C.β id = .no := fun id hid => by
      have := hinv.obs id
      rw [hs, show sat [(0, Ob.gro 22 1 xs.length (groL (slD 1 iD) xs))] id = .dead by simp [sat, hid]] at this
      exact this
    simp only [AV.oks, AV.ok] at hargs
    obtain ⟨v, r, hv, ⟨u', m, g1, g2, g3, _⟩, v2, r2, rfl, ⟨fs, cs, rfl, h5, h6⟩, rfl⟩ := hargs
    rw [hβ] at g1
    obtain ⟨rfl, rfl⟩ : u' = u ∧ m = xs.length := by simpa [Place.at, eq_comm] using g1
    have hvu := g3 rfl
    subst hvu
    have e1 : fs = #[] := Array.ext' h5
    have e2 : cs = #[] := Array.ext' h6
    subst e1 e2
    have e3 : vs = #[v, .func (.func 94) #[] #[]] := Array.ext' hv
    subst e3
    rcases hg with ⟨rfl, h0⟩ | ⟨b, cap, us, rfl, hb, hus, hncap, hcap, hone, pre, rest, hpre, hoks⟩
    · have hx : xs = [] := List.eq_nil_of_length_eq_zero h0
      subst hx
      refine (Tryz.slices_SortFunc_none (α := Nat) none 0 _ C.w).mono ?_
      rintro e w' ⟨rfl, rfl⟩
      refine ⟨.tuple #[], .tup [], C.β, C.s, rfl, hinv, ?_, rfl, by rw [hs]; simp [sortT]⟩
      simp only [AV.ok, AV.oks]
      exact ⟨#[], rfl, rfl⟩
    · have hO : ∀ o, C.forb C.β C.s b o := fun o => .inr ⟨0, by rw [hs]; exact ⟨cap, hβ⟩⟩
      obtain ⟨d, hd1, hd2, hd3⟩ := cells_el hO hl.2 hoks
      have hdl : d.length = xs.length := by rw [← hd2, List.length_map]
      have hbs : b < C.w.heap.size := (Array.getElem?_eq_some_iff.1 hb).1
      have hpl : pre.length = d.length := by rw [← hd1, List.length_map]
      have hH : Holds El.v C.w b 0 d.toArray := fun j hj => by
        have hj' : j < d.length := by simpa using hj
        have g : us[j]? = some d[j].v := by
          have : us.toList[j]? = some d[j].v := by rw [hpre, List.getElem?_append_left (by omega), ← hd1]; simp [hj']
          simpa using this
        refine ⟨?_, by simp [World.frozen?, hb]⟩
        rw [getElem!_pos _ j hj]
        simp only [World.cell?, hb, Nat.zero_add]
        simpa using g
      have W := sort_walk (cap := cap) hH hbs (by simp; omega)
      rw [show d.toArray.size = xs.length by simp [hdl]] at W
      refine W.mono ?_
      rintro e w' ⟨rfl, d', n, os, rfl, hs', hperm, hsorted⟩
      have hs2 : d'.size = d.length := by rw [hdl]; exact hs'
      have hp2 : d'.toList.Perm d := by simpa using hperm
      have hs3 : d'.toList.map El.xs = sortT xs := by rw [hsorted]; simp [hd2]
      have H2 : ∀ k, k ≠ b → k < C.w.heap.size → (sortWorld El.v C.w b 0 n d' os).heap[k]? = C.w.heap[k]? := fun k hk hlt => by
        simp only [sortWorld, grow, putRow, mapBlock, Go.Sort.ahead]
        rw [Array.getElem?_append_left (by simpa using hlt), Array.getElem?_modify, if_neg (fun e => hk e.symm)]
      have H3 : (sortWorld El.v C.w b 0 n d' os).heap[b]? = some (.cells (putCells El.v 0 d' us) 22 (0, 0)) := by
        simp only [sortWorld, grow, putRow, mapBlock, Go.Sort.ahead]
        rw [Array.getElem?_append_left (by simpa using hbs), Array.getElem?_modify, if_pos rfl, hb]
        rfl
      have H4 : (putCells El.v 0 d' us).toList = d'.toList.map El.v ++ rest := by
        apply List.ext_getElem?
        intro k
        simp only [putCells, Array.toList_mapIdx, List.getElem?_mapIdx, Nat.zero_le, true_and, Nat.zero_add, Nat.sub_zero, hpre]
        by_cases hk : k < d'.size
        · rw [List.getElem?_append_left (by rw [hpl]; omega), List.getElem?_append_left (by simpa using hk)]
          rw [List.getElem?_eq_getElem (show k < pre.length by omega)]
          simp [hk]
        · rw [List.getElem?_append_right (by rw [hpl]; omega), List.getElem?_append_right (by simpa using hk)]
          have : k - pre.length = k - (d'.toList.map El.v).length := by simp; omega
          rw [this]
          cases hq : rest[k - (d'.toList.map El.v).length]? with
          | none => rfl
          | some z => simp [hk]
      have same : ∀ b' o, own C.β [(0, Ob.gro 22 1 xs.length (groL (slD 1 iD) (sortT xs)))] b' o ↔ own C.β C.s b' o := fun b' o => by
        rw [hs]
        constructor
        · rintro ⟨id, h⟩
          by_cases hid : id = 0
          · subst hid; exact ⟨0, h⟩
          · rw [show sat [(0, Ob.gro 22 1 xs.length (groL (slD 1 iD) (sortT xs)))] id = .dead by simp [sat, hid]] at h; exact h.elim
        · rintro ⟨id, h⟩
          by_cases hid : id = 0
          · subst hid; exact ⟨0, h⟩
          · rw [show sat [(0, Ob.gro 22 1 xs.length (groL (slD 1 iD) xs))] id = .dead by simp [sat, hid]] at h; exact h.elim
      have sameB : ∀ id b', blockOf C.β [(0, Ob.gro 22 1 xs.length (groL (slD 1 iD) (sortT xs)))] id b' ↔ blockOf C.β C.s id b' := fun id b' => by
        rw [hs]
        by_cases hid : id = 0
        · subst hid; exact Iff.rfl
        · unfold blockOf
          rw [show sat [(0, Ob.gro 22 1 xs.length (groL (slD 1 iD) (sortT xs)))] id = .dead by simp [sat, hid], show sat [(0, Ob.gro 22 1 xs.length (groL (slD 1 iD) xs))] id = .dead by simp [sat, hid]]
      have m : Moves C.β C.s C.w C.β [(0, Ob.gro 22 1 xs.length (groL (slD 1 iD) (sortT xs)))] (sortWorld El.v C.w b 0 n d' os) := {
        size := by simp only [sortWorld, grow, putRow, mapBlock, Go.Sort.ahead]; simp
        io := rfl
        keep := fun b' o v hc hn => by
          have hne : b' ≠ b := fun e => hn (by subst e; exact ⟨0, by rw [hs]; exact ⟨cap, hβ⟩⟩)
          have := H2 b' hne (cell_lt hc)
          simp only [World.cell?] at hc ⊢
          rw [this]; exact hc
        blks := fun b' hlt hn => H2 b' (fun e => hn 0 (by subst e; rw [hs]; exact ⟨cap, hβ⟩)) hlt
        ownd := fun b' o h => .inl ((same b' o).1 h)
        ownB := fun id b' h => .inl ⟨id, (sameB id b').1 h⟩
        pl := fun id => .refl _ }
      have hst' := hst.move m (fun id => by
        by_cases hid : id = 0
        · subst hid
          show ObOk C.β _ _ 0 (.gro 22 1 xs.length (groL (slD 1 iD) (sortT xs)))
          refine ⟨_, hβ, by rw [groL_len1, sortT_len]; omega, .inr ⟨b, cap, _, rfl, H3, by simp [putCells, hus], hncap, hcap, ?_, _, rest, H4, ?_⟩⟩
          · intro z hz
            rw [H4, List.mem_append] at hz
            rcases hz with hz | hz
            · obtain ⟨y, _, rfl⟩ := List.mem_map.1 hz
              obtain ⟨A, ca, e, _⟩ := y.ok
              rw [e]; rfl
            · exact hone z (by rw [hpre]; simp [hz])
          · have g : D.oks (C.forb C.β [(0, Ob.gro 22 1 xs.length (groL (slD 1 iD) (sortT xs)))]) (sortWorld El.v C.w b 0 n d' os) (groL (slD 1 iD) (d'.toList.map El.xs)) (d'.toList.map El.v) := ?_
            · rw [hs3] at g; exact g
            refine els_oks (O := C.O) d'.toList fun y hy => ?_
            have := m.ok (C := C) (x := .d (slD 1 iD y.xs)) (v := y.v) (by simp only [AV.ok]; exact hd3 y (hp2.mem_iff.1 hy))
            simp only [AV.ok] at this
            exact this
        · rw [show sat [(0, Ob.gro 22 1 xs.length (groL (slD 1 iD) (sortT xs)))] id = .dead by simp [sat, hid]]
          exact hdead id hid) (fun i j b' hi hj => hinv.inj i j b' ((sameB i b').1 hi) ((sameB j b').1 hj))
      refine ⟨.tuple #[], .tup [], C.β, _, rfl, hst'.inv, ?_, rfl, rfl⟩
      simp only [AV.ok, AV.oks]
      exact ⟨#[], rfl, rfl⟩
  · cases h⟩
end Go.Proofs.YtcbfefbocpikoaaGreat
namespace Abx
open Go
section
open Go.RowKit
end
end Abx
namespace Abx
open Go
attribute [go_sem] List.set_cons_zero List.set_cons_succ
theorem noDp_nil : noDp [] = true := (rfl)
theorem noDp_d {x : D} {xs : List AV} : noDp (.d x :: xs) = noDp xs := (rfl)
theorem noDp_gow {e id n : Nat} {xs : List AV} : noDp (.gow e id n :: xs) = noDp xs := (rfl)
attribute [go_sem] noDp_nil noDp_d noDp_gow
theorem NsLe_refl_t {xs : List AV} : NsLe xs xs ↔ True := ⟨fun _ => trivial, fun _ => NsLe.refl xs⟩
attribute [go_sem] NsLe_refl_t ne_eq not_false_eq_true
theorem rens_take {ρ : Nat → Option Nat} {xs : List AV} {n : Nat} : AV.rens ρ (xs.take n) = (AV.rens ρ xs).take n := by simp only [rens_mapB, List.map_take]
theorem rens_drop {ρ : Nat → Option Nat} {xs : List AV} {n : Nat} : AV.rens ρ (xs.drop n) = (AV.rens ρ xs).drop n := by simp only [rens_mapB, List.map_drop]
attribute [go_sem] rens_take rens_drop
theorem Inv.prv_len {C : Ctx} {β : Beta} {s : Sto} {w : World} (h : Inv C β s w) {id e n : Nat} {xs : List D} (hs : sat s id = .prv e n (tolds xs)) (he : ∀ x ∈ xs, (dcells x).length = e) (h0 : 0 < e) : n = xs.length := by
  have ho := h.obs id
  rw [hs] at ho
  obtain ⟨u, bs, _, _, hl, _⟩ := ho
  rw [tolds_len he] at hl
  exact (Nat.eq_of_mul_eq_mul_right h0 hl).symm
section
variable {α γ : Type} [Inhabited α] {f : α → D} {f' : γ → D} {e e' n k0 : Nat} {s : Sto} {env : List AV} {xs : List α} {y y' : α} {ys : List γ} {i k : Nat}
theorem told_segE [Cel f e] {L : List AV} {m m' : Nat} (hi : i < xs.length) (hm : m = i * e) (hm' : m' = i * e + e) (hL : L = (dcells (f y)).map toldC) :
    (tolds (xs.map f)).take m ++ L ++ (tolds (xs.map f)).drop m' = tolds ((xs.set i y).map f) := by
  subst hm; subst hm'; subst hL
  have h1 := groL_take Cel.len xs i 0 hi (Nat.zero_le e) (f := f)
  have h2 := groL_drop Cel.len xs i e hi (Nat.le_refl e) (f := f)
  rw [tolds_L, tolds_L, ← List.map_take, ← List.map_drop, h2]
  rw [Nat.add_zero] at h1
  rw [h1, List.take_zero, List.append_nil, List.drop_of_length_le (by rw [Cel.len]; exact Nat.le_refl _), List.nil_append, List.set_eq_take_append_cons_drop, if_pos hi, groL_append, groL_cons]
  simp only [List.map_append, List.append_assoc]
theorem Weak.absSeg [Cel f' e'] [Cl f'] (id c q : Nat) {A L B : List AV} {m m' : Nat} (hs : sat s id = .prv e n (A ++ L ++ B)) (hq : L[q]? = some (.gow e' c m)) (hcs : sat s c = .prv e' m' (tolds (ys.map f'))) (hm : m = m') (h0 : 0 < e')
    (hc : k0 ≤ c) (hne : id ≠ c) :
    Weak k0 env s (AV.rens (killρ c) env) (sset (skill c s) id (.prv e n (AV.rens (killρ c) A ++ (AV.rens (killρ c) L).set q (.dp (slD e' f' ys)) ++ AV.rens (killρ c) B))) := fun C β a w hC hst => by
  subst hC; subst hm
  have hlen := hst.inv.prv_len hcs told_cond.1 h0
  rw [List.length_map] at hlen
  subst hlen
  have hqL : q < L.length := (List.getElem?_eq_some_iff.1 hq).1
  have hj : (A ++ L ++ B)[A.length + q]? = some (.gow e' c (ys.map f').length) := by
    rw [List.append_assoc, List.getElem?_append_right (by omega), Nat.add_sub_cancel_left, List.getElem?_append_left hqL, hq, List.length_map]
  obtain ⟨β', h2⟩ := hst.absorbP hne hc hs hj (WholeP.of hcs rfl)
  refine ⟨β', ?_⟩
  have : (AV.rens (killρ c) (A ++ L ++ B)).set (A.length + q) (.dp (.sl e' none (ys.map f'))) = AV.rens (killρ c) A ++ (AV.rens (killρ c) L).set q (.dp (slD e' f' ys)) ++ AV.rens (killρ c) B := by
    rw [rens_append', rens_append', List.append_assoc, List.append_assoc, List.set_append, if_neg (by rw [rens_length]; omega), rens_length, Nat.add_sub_cancel_left, List.set_append, if_pos (by rw [rens_length]; exact hqL)]
    rfl
  rw [this] at h2
  exact h2
end
attribute [go_sem] told_len
theorem Weak.prvZ {α : Type} {f : α → D} {e n m k0 id : Nat} {s : Sto} {env : List AV} {z : List AV} (x0 : α) (hs : sat s id = .prv e n ((List.replicate m z).flatten)) (h : NsLe z ((dcells (f x0)).map toldC)) :
    Weak k0 env s env (sset s id (.prv e n (tolds ((List.replicate m x0).map f)))) :=
  Weak.prvLe id _ hs (by rw [List.map_replicate]; exact NsLe.rep h m)
end Abx
namespace Go.Proofs.YtcbfefbocpikoaaGreat
open Go Abx
attribute [local irreducible] vcm vgo vdr vrun vdrun MWp GhostQ BrC BrO BrG BrD BrH AmbO callR callD drQ EnvLe StoLe
set_option maxHeartbeats 4000000
instance : Cl D_impl_Rule := Cl.agg _ (fun _ => rfl) (fun _ => rfl)
end Go.Proofs.YtcbfefbocpikoaaGreat
namespace Go.Proofs.YtcbfefbocpikoaaGreat
open Go Abx
attribute [local irreducible] vcm vgo vdr vrun vdrun MWp GhostQ BrC BrO BrG BrD BrH AmbO callR callD drQ EnvLe StoLe
set_option maxHeartbeats 4000000
def mc99 : MCode :=
 (.seq (.reg (sq 6 [.mv (.const (.slice none 0 0))])) (.seq (.seq (.reg (sq 12 [mv 1, bi .eql 12 0])) (.cond (t0 13) (.seq (.seq (.reg (sq 14 [mv 2, bi .eql 14 0])) (.cond (t0 15) (.seq (.reg (sq 16 [.bsl 16 2 1 [], .bsl 17 22 1 [(t0 16)]] ++ sq 6 [mv 17])) .ret) .skip)) (.seq (.reg (sq 18 [.bsl 18 22 1 []] ++ sq 6 [mv 18])) .ret)) .skip)) (.seq (.reg (sq 19 [.bsl 19 22 1 []] ++ sq 7 [mv 19])) (.seq (.seq (.reg (sq 8 [mi 1])) (.block 0 (.loop (.seq (.seq (.reg (sq 20 [mv 8, mv 2, bn .leq 20 21])) (.cond (t0 22) .skip (.exit 0))) (.seq (.block 1 (.seq (.seq (.reg (sq 25 [mv 0, mv 8, ix 1 25 26, ld 27, ln 28, bi .eql 29 0])) (.cond (t0 30) (.exit 1) .skip)) (.seq (.reg (sq 31 [mv 0, mv 1, bi .sub 32 1, mv 2, mv 8, bn .sub 34 35, cf 99 [31, 33, 36]] ++ sq 9 [mv 37])) (.seq (.reg (sq 10 [mi 0])) (.block 2 (.loop (.seq (.seq (.reg (sq 38 [mv 10, mv 0, mv 8, ix 1 39 40, ld 41, ln 42, bn .lss 38 43, mv 44] ++ sg 45 true 46 [mv 7, ln 46, bi .leq 47 200] ++ sq 49 [pa 45 48])) (.cond (t0 49) .skip (.exit 2))) (.seq (.block 3 (.seq (.reg (sq 11 [mi 0])) (.block 4 (.loop (.seq (.seq (.reg (sq 52 [mv 11, mv 9, ln 53, bn .lss 52 54, mv 55] ++ sg 56 true 57 [mv 7, ln 57, bi .leq 58 200] ++ sq 60 [pa 56 59])) (.cond (t0 60) .skip (.exit 4))) (.seq (.block 5 (.draw (sq 63 [mv 7, mv 0, mv 8, ix 1 64 65, ld 66, mv 10, ix 1 67 68, ld 69, cf 78 [70], mv 9, mv 11, ix 1 72 73, ld 74, ap 76 2 1 8 71 75, .bsl 77 22 1 [(t0 76)], ap 78 22 1 24 63 77] ++ sq 7 [mv 78]) [[], [], [], [1, 2], [3], [], [4, 5], [6], [7], [], [], [9, 10], [11], [8, 12, 8], [13], [0, 14, 13], [15, 15, 0, 1, 2, 3, 4, 5, 6, 7, 8, 9, 10, 11, 12, 13, 14, 15]])) (.reg (sq 61 [mv 11, bi .add 61 1] ++ sq 11 [mv 62])))))))) (.reg (sq 50 [mv 10, bi .add 50 1] ++ sq 10 [mv 51])))))))))) (.reg (sq 23 [mv 8, bi .add 23 1] ++ sq 8 [mv 24]))))))) (.seq (.reg (sq 79 [mv 7] ++ sq 6 [mv 79])) .ret)))))
theorem fn99 : MFn Tryz.prog 99 mc99 80 [.tmp 6] := ⟨_, Tryz.func99, by kernel_rfl, Tryz.ntmps99, by kernel_rfl⟩
noncomputable def F_spec_l25Rows_l3 (byLength : (List (List (List Int)))) (k : Int) (r : (List (List Int))) (i : Int) : ((List (List Int)) × Int) → Option (((List (List Int)) × Int) ⊕ (((List (List Int)) × Int) ⊕ (((List (List Int)) × Int) ⊕ (List (List Int)))))
 | (out_2, x) =>
  if (decide (x < (r.length : Int))) = true then
   if (decide ((out_2.length : Int) ≤ 200)) = true then
    if 0 ≤ k ∧ k < (byLength.length : Int) then
     if 0 ≤ i ∧ i < ((byLength.getD k.toNat default).length : Int) then
      (F_spec_l1Copy ((byLength.getD k.toNat default).getD i.toNat default)).bind fun r_1 =>
      if 0 ≤ x ∧ x < (r.length : Int) then
       if (r_1.length + (r.getD x.toNat default).length) * 8 ≤ 140737488355328 then
        if (out_2.length + 1) * 24 ≤ 140737488355328 then
         some (.inl ((out_2 ++ [(r_1 ++ (r.getD x.toNat default))]), (IntKind.i64.wrap (x + 1))))
        else none
       else none
      else none
     else none
    else none
   else
    Option.map Sum.inr (
     some (.inl (out_2, (IntKind.i64.wrap (i + 1)))))
  else
   Option.map Sum.inr (
    some (.inl (out_2, (IntKind.i64.wrap (i + 1)))))
noncomputable def F_spec_l25Rows_l2 (byLength : (List (List (List Int)))) (k : Int) (r : (List (List Int))) : ((List (List Int)) × Int) → Option (((List (List Int)) × Int) ⊕ (((List (List Int)) × Int) ⊕ (List (List Int))))
 | (out_1, i) =>
  if 0 ≤ k ∧ k < (byLength.length : Int) then
   if (decide (i < ((byLength.getD k.toNat default).length : Int))) = true then
    if (decide ((out_1.length : Int) ≤ 200)) = true then
     loopC (F_spec_l25Rows_l3 byLength k r i) (out_1, 0)
    else
     Option.map Sum.inr (
      some (.inl (out_1, (IntKind.i64.wrap (k + 1)))))
   else
    Option.map Sum.inr (
     some (.inl (out_1, (IntKind.i64.wrap (k + 1)))))
  else none
noncomputable def F_spec_l25Rows_l1 (rec : (List (List (List Int))) → Int → Int → Option (List (List Int))) (byLength : (List (List (List Int)))) (arity : Int) (n : Int) : ((List (List Int)) × Int) → Option (((List (List Int)) × Int) ⊕ (List (List Int)))
 | (out, k) =>
  if (decide (k ≤ n)) = true then
   if 0 ≤ k ∧ k < (byLength.length : Int) then
    if (((byLength.getD k.toNat default).length : Int) == 0) = true then
     some (.inl (out, (IntKind.i64.wrap (k + 1))))
    else
     (rec byLength (IntKind.i64.wrap (arity - 1)) (IntKind.i64.wrap (n - k))).bind fun r =>
     loopC (F_spec_l25Rows_l2 byLength k r) (out, 0)
   else none
  else
   Option.map Sum.inr (
    some out)
noncomputable def F_spec_l25Rows : Nat → (List (List (List Int))) → Int → Int → Option (List (List Int))
 | 0, _, _, _ => none
 | fu + 1, byLength, arity, n =>
  if (arity == 0) = true then
   if (n == 0) = true then
    some [[]]
   else
    some []
  else
   loopC (F_spec_l25Rows_l1 (F_spec_l25Rows fu) byLength arity n) ([], 1)
noncomputable def F_spec_l25Rows_all (byLength : (List (List (List Int)))) (arity : Int) (n : Int) : Option (List (List Int)) := limO fun fu => F_spec_l25Rows fu byLength arity n
theorem c_spec_l25Rows : ∀ {fu : Nat} {byLength : (List (List (List Int)))} {arity : Int} {n : Int} {rr : (List (List Int))} (h : F_spec_l25Rows fu byLength arity n = some rr), PFun Tryz.prog 99 [(slD 1 (slD 1 (slD 1 iD))) byLength, iD arity, iD n] ((slD 1 (slD 1 iD)) rr)
  | 0, _, _, _, _, h => by cases h
  | fu + 1, byLength, arity, n, rr, h => by
    have ih : ∀ {byLength : (List (List (List Int)))} {arity : Int} {n : Int}, HasC (F_spec_l25Rows fu byLength arity n) fun rr => PFun Tryz.prog 99 [(slD 1 (slD 1 (slD 1 iD))) byLength, iD arity, iD n] ((slD 1 (slD 1 iD)) rr) := ⟨fun h => c_spec_l25Rows h⟩
    unfold F_spec_l25Rows at h
    refine fn99.pureL (vcm_sound ?_)
    delta mc99
    refine stp ?_
    refine iF h fun hc h => ?_
    refine m_lW h [7, 8, 9, 10, 11, 20, 21, 22, 23, 24, 25, 26, 27, 28, 29, 30, 31, 32, 33, 34, 35, 36, 37, 38, 39, 40, 41, 42, 43, 44, 45, 46, 47, 48, 49, 50, 51, 52, 53, 54, 55, 56, 57, 58, 59, 60, 61, 62, 63, 64, 65, 66, 67, 68, 69, 70, 71, 72, 73, 74, 75, 76, 77, 78] (fun pp => [(7, .own 1 19 (List.map (slD 1 iD) pp.1)), (8, .d (iD pp.2))]) (fun pp => [(19, .tok 22 1 pp.1.length)]) ?_
    rintro ⟨out, k⟩ t1 h hb1
    unfold F_spec_l25Rows_l1 at h
    try dsimp only at h
    refine vcm_sound (stp ?_)
    refine iT h fun hc h => ?_
    refine ndI h fun hp h => ?_
    refine iF h fun hc h => ?_
    refine rC h fun r hr h => ?_
    refine m_lW h [7, 10, 11, 38, 39, 40, 41, 42, 43, 44, 45, 46, 47, 48, 49, 50, 51, 52, 53, 54, 55, 56, 57, 58, 59, 60, 61, 62, 63, 64, 65, 66, 67, 68, 69, 70, 71, 72, 73, 74, 75, 76, 77, 78] (fun pp => [(7, .own 1 19 (List.map (slD 1 iD) pp.1)), (10, .d (iD pp.2))]) (fun pp => [(19, .tok 22 1 pp.1.length)]) ?_
    rintro ⟨out_1, i⟩ t2 h hb2
    unfold F_spec_l25Rows_l2 at h
    try dsimp only at h
    refine vcm_sound (stp ?_)
    refine ndI h fun hp h => ?_
    refine iT h fun hc h => ?_
    refine iT h fun hc h => ?_
    refine m_lW h [7, 11, 52, 53, 54, 55, 56, 57, 58, 59, 60, 61, 62, 63, 64, 65, 66, 67, 68, 69, 70, 71, 72, 73, 74, 75, 76, 77, 78] (fun pp => [(7, .own 1 19 (List.map (slD 1 iD) pp.1)), (11, .d (iD pp.2))]) (fun pp => [(19, .tok 22 1 pp.1.length)]) ?_
    rintro ⟨out_2, x⟩ t3 h hb3
    unfold F_spec_l25Rows_l3 at h
    try dsimp only at h
    refine vcm_sound (stp ?_)
    refine iT h fun hc h => ?_
    refine iT h fun hc h => ?_
    refine ndI h fun hp h => ?_
    refine ndI h fun hp h => ?_
    refine dCo [] [(3, 71)] h fun r_1 hr_1 h => ?_
    refine ndI h fun hp h => ?_
    refine ndI h fun hp h => ?_
    refine ndI h fun hp h => ?_
    refine drQ_of (by kernel_rfl) (stp ?_)
    cases h
    refine ⟨_, rfl, ?_⟩
    refine (Weak.drop 71 (by omega)).trans ?_
    refine (Weak.drop 77 (by omega)).trans ?_
    exact wk
instance c_spec_l25Rows_all {byLength : (List (List (List Int)))} {arity : Int} {n : Int} : HasC (F_spec_l25Rows_all byLength arity n) fun rr => PFun Tryz.prog 99 [(slD 1 (slD 1 (slD 1 iD))) byLength, iD arity, iD n] ((slD 1 (slD 1 iD)) rr) := ⟨fun h => c_spec_l25Rows (limO_some h).choose_spec⟩
def mc62 : MCode :=
 (.seq (.reg (sq 2 [bo 2 30 0] ++ sq 4 [.mv (.const (.slice none 0 0)), mb false])) (.seq (.seq (.reg (sq 13 [la 1 2, cf 71 [13], nt 14, mv 15] ++ sg 16 false 17 [mv 1, .callf 35 [(t0 17), (i0 1), (i0 60)], nt 18] ++ sq 20 [po 16 19])) (.cond (t0 20) (.seq (.reg (sq 21 [.bsl 21 22 1 []] ++ sq 4 [mv 21, mb false])) .ret) .skip)) (.seq (.reg (sq 22 [.bsl 22 22 1 [], .bsl 23 47 1 [(t0 22)]] ++ sq 6 [mv 23])) (.seq (.reg (sq 24 [.bsl 24 22 1 []] ++ sq 7 [mv 24])) (.seq (.seq (.reg (sq 8 [mi 1])) (.block 0 (.loop (.seq (.seq (.reg (sq 25 [mv 8, mv 1, bn .leq 25 26])) (.cond (t0 27) .skip (.exit 0))) (.seq (.block 1 (.seq (.reg (sq 30 [.bsl 30 22 1 []] ++ sq 9 [mv 30])) (.seq (.seq (.reg (sq 10 [mi 0])) (.block 2 (.loop (.seq (.seq (.reg (sq 31 [mv 10, fa 0 2, ld 32, ln 33, bn .lss 31 34])) (.cond (t0 35) .skip (.exit 2))) (.seq (.block 3 (.seq (.reg (sq 38 [mv 6, fa 0 2, ld 39, mv 10, ix 1 40 41, ld 42, mv 8, bi .sub 44 1, cf 99 [38, 43, 45]] ++ sq 11 [mv 46])) (.seq (.reg (sq 12 [mi 0])) (.block 4 (.loop (.seq (.seq (.reg (sq 47 [mv 12, mv 11, ln 48, bn .lss 47 49])) (.cond (t0 50) .skip (.exit 4))) (.seq (.block 5 (.reg (sq 53 [mv 9, mv 10, .bsl 55 2 1 [(t0 54)], mv 11, mv 12, ix 1 56 57, ld 58, ap 60 2 1 8 55 59, cf 51 [53, 60]] ++ sq 9 [mv 61]))) (.reg (sq 51 [mv 12, bi .add 51 1] ++ sq 12 [mv 52]))))))))) (.reg (sq 36 [mv 10, bi .add 36 1] ++ sq 10 [mv 37]))))))) (.seq (.reg (sq 62 [mv 6, mv 9, .bsl 64 47 1 [(t0 63)], ap 65 47 1 24 62 64] ++ sq 6 [mv 65])) (.seq (.reg (sq 66 [mv 7, mv 9, ap 68 22 1 24 66 67] ++ sq 7 [mv 68])) (.seq (.reg (sq 69 [mv 7, ln 69, bi .gtr 70 200])) (.cond (t0 71) (.seq (.reg (sq 72 [.bsl 72 22 1 []] ++ sq 4 [mv 72, mb false])) .ret) .skip))))))) (.reg (sq 28 [mv 8, bi .add 28 1] ++ sq 8 [mv 29]))))))) (.seq (.reg (sq 73 [mv 7] ++ sq 4 [mv 73, mb true])) .ret))))))
theorem fn62 : MFn Tryz.prog 62 mc62 74 [.tmp 4, .tmp 5] := ⟨_, Tryz.func62, by kernel_rfl, Tryz.ntmps62, by kernel_rfl⟩
noncomputable def F_spec_GroundsOf_l3 (f : Int) (r_2 : (List (List Int))) : ((List (List Int)) × Int) → Option (((List (List Int)) × Int) ⊕ (((List (List Int)) × Int) ⊕ (((List (List (List Int))) × (List (List Int)) × Int) ⊕ ((List (List Int)) × Bool))))
 | (level_1, i) =>
  if (decide (i < (r_2.length : Int))) = true then
   if 0 ≤ i ∧ i < (r_2.length : Int) then
    if (1 + (r_2.getD i.toNat default).length) * 8 ≤ 140737488355328 then
     (F_spec_l28Insert level_1 ([f] ++ (r_2.getD i.toNat default))).bind fun r_3 =>
     some (.inl (r_3, (IntKind.i64.wrap (i + 1))))
    else none
   else none
  else
   Option.map Sum.inr (
    some (.inl (level_1, (IntKind.i64.wrap (f + 1)))))
noncomputable def F_spec_GroundsOf_l2 (sig : (List Int)) (byLength : (List (List (List Int)))) (all : (List (List Int))) (k : Int) : ((List (List Int)) × Int) → Option (((List (List Int)) × Int) ⊕ (((List (List (List Int))) × (List (List Int)) × Int) ⊕ ((List (List Int)) × Bool)))
 | (level, f) =>
  if (decide (f < (sig.length : Int))) = true then
   if 0 ≤ f ∧ f < (sig.length : Int) then
    (F_spec_l25Rows_all byLength (sig.getD f.toNat default) (IntKind.i64.wrap (k - 1))).bind fun r_2 =>
    loopC (F_spec_GroundsOf_l3 f r_2) (level, 0)
   else none
  else
   Option.map Sum.inr (
    if (byLength.length + 1) * 24 ≤ 140737488355328 then
     if (all.length + level.length) * 24 ≤ 140737488355328 then
      if (decide (200 < ((all ++ level).length : Int))) = true then
       Option.map Sum.inr (
        some ([], false))
      else
       some (.inl ((byLength ++ [level]), (all ++ level), (IntKind.i64.wrap (k + 1))))
     else none
    else none)
noncomputable def F_spec_GroundsOf_l1 (sig : (List Int)) (n : Int) : ((List (List (List Int))) × (List (List Int)) × Int) → Option (((List (List (List Int))) × (List (List Int)) × Int) ⊕ ((List (List Int)) × Bool))
 | (byLength, all, k) =>
  if (decide (k ≤ n)) = true then
   loopC (F_spec_GroundsOf_l2 sig byLength all k) ([], 0)
  else
   Option.map Sum.inr (
    some (all, true))
noncomputable def F_spec_GroundsOf (sig : (List Int)) (n : Int) : Option ((List (List Int)) × Bool) :=
 (F_spec_SigOk sig).bind fun r =>
 if r = true then
  (F_spec_l1In n 1 60).bind fun r_1 =>
  if r_1 = true then
   loopC (F_spec_GroundsOf_l1 sig n) ([[]], [], 1)
  else
   some ([], false)
 else
  some ([], false)
instance c_spec_GroundsOf {sig : (List Int)} {n : Int} : HasC (F_spec_GroundsOf sig n) fun rr => PFunN Tryz.prog 62 [D_impl_Sig sig, iD n] [(slD 1 (slD 1 iD)) rr.1, bD rr.2] := ⟨@fun rr h => by
  delta F_spec_GroundsOf at h
  refine fn62.pureLN (vcm_sound ?_)
  delta mc62
  refine stp ?_
  refine rC h fun r hr h => ?_
  refine iT h fun hc h => ?_
  refine rC h fun r_1 hr_1 h => ?_
  refine iT h fun hc h => ?_
  refine m_lW h [4, 5, 6, 7, 8, 9, 10, 11, 12, 25, 26, 27, 28, 29, 30, 31, 32, 33, 34, 35, 36, 37, 38, 39, 40, 41, 42, 43, 44, 45, 46, 47, 48, 49, 50, 51, 52, 53, 54, 55, 56, 57, 58, 59, 60, 61, 62, 63, 64, 65, 66, 67, 68, 69, 70, 71, 72] (fun pp => [(6, .own 1 23 (List.map (slD 1 (slD 1 iD)) pp.1)), (7, .own 1 24 (List.map (slD 1 iD) pp.2.1)), (8, .d (iD pp.2.2))]) (fun pp => [(2, .obj 30 [.d (slD 1 iD sig)]), (22, .tok 22 1 0), (23, .tok 47 1 pp.1.length), (24, .tok 22 1 pp.2.1.length)]) ?_
  rintro ⟨byLength, all, k⟩ t1 h hb1
  unfold F_spec_GroundsOf_l1 at h
  try dsimp only at h
  refine vcm_sound (stp ?_)
  refine iT h fun hc h => ?_
  refine m_lW h [9, 10, 11, 12, 31, 32, 33, 34, 35, 36, 37, 38, 39, 40, 41, 42, 43, 44, 45, 46, 47, 48, 49, 50, 51, 52, 53, 54, 55, 56, 57, 58, 59, 60, 61] (fun pp => [(9, .d (slD 1 (slD 1 iD) pp.1)), (10, .d (iD pp.2))]) (fun pp => [(2, .obj 30 [.d (slD 1 iD sig)]), (22, .tok 22 1 0), (23, .tok 47 1 byLength.length), (24, .tok 22 1 all.length), (30, .tok 22 1 0)]) ?_
  rintro ⟨level, f⟩ t2 h hb2
  unfold F_spec_GroundsOf_l2 at h
  try dsimp only at h
  refine vcm_sound (stp ?_)
  refine it h (fun hc h => ?_) fun hc h => ?_
  · refine ndI h fun hp h => ?_
    refine rC h fun r_2 hr_2 h => ?_
    refine m_lW h [9, 12, 47, 48, 49, 50, 51, 52, 53, 54, 55, 56, 57, 58, 59, 60, 61] (fun pp => [(9, .d (slD 1 (slD 1 iD) pp.1)), (12, .d (iD pp.2))]) (fun pp => [(2, .obj 30 [.d (slD 1 iD sig)]), (22, .tok 22 1 0), (23, .tok 47 1 byLength.length), (24, .tok 22 1 all.length), (30, .tok 22 1 0)]) ?_
    rintro ⟨level_1, i⟩ t3 h hb3
    unfold F_spec_GroundsOf_l3 at h
    try dsimp only at h
    refine vcm_sound (stp ?_)
    refine iT h fun hc h => ?_
    refine ndI h fun hp h => ?_
    refine ndI h fun hp h => ?_
    refine rC h fun r_3 hr_3 h => ?_
    cases h
    refine ⟨_, rfl, ?_⟩
    refine (Weak.drop 55 (by omega)).trans ?_
    exact wk
  replace h := inr_some h hb2
  refine ndI h fun hp h => ?_
  refine ndI h fun hp h => ?_
  refine iF h fun hc h => ?_
  cases h
  refine ⟨_, rfl, ?_⟩
  refine (Weak.drop 30 (by omega)).trans ?_
  refine (Weak.drop 64 (by omega)).trans ?_
  exact wk⟩
end Go.Proofs.YtcbfefbocpikoaaGreat
namespace Go.Proofs.YtcbfefbocpikoaaGreat
open Go Abx
attribute [local irreducible] vcm vgo vdr vrun vdrun MWp GhostQ BrC BrO BrG BrD BrH AmbO callR callD drQ EnvLe StoLe
set_option maxHeartbeats 4000000
def mc104 : MCode :=
 (.seq (.reg (sq 6 [mi 0])) (.seq (.seq (.reg (sq 10 [mv 1, bi .eql 10 0])) (.cond (t0 11) (.seq (.seq (.reg (sq 12 [mv 2, bi .eql 12 0])) (.cond (t0 13) (.seq (.reg (sq 6 [mi 1])) .ret) .skip)) (.seq (.reg (sq 6 [mi 0])) .ret)) .skip)) (.seq (.reg (sq 7 [mi 0])) (.seq (.seq (.reg (sq 8 [mi 1])) (.block 0 (.loop (.seq (.seq (.reg (sq 14 [mv 8, mv 2, mv 1, bn .sub 15 16, bi .add 17 1, bn .leq 14 18])) (.cond (t0 19) .skip (.exit 0))) (.seq (.block 1 (.seq (.reg (sq 22 [mv 0, mv 8, .nilc (t0 22), .ixaA 1 61 (t0 24) (t0 23), ld 25, ln 26] ++ sq 9 [mv 27])) (.seq (.reg (sq 28 [mv 9, bi .gtr 28 0])) (.cond (t0 29) (.reg (sq 30 [mv 7, mv 9, mv 0, mv 1, bi .sub 33 1, mv 2, mv 8, bn .sub 35 36, cf 104 [32, 34, 37], bn .mul 31 38, bn .add 30 39, .min (t0 40) (i0 201)] ++ sq 7 [mv 41])) .skip)))) (.reg (sq 20 [mv 8, bi .add 20 1] ++ sq 8 [mv 21]))))))) (.seq (.reg (sq 42 [mv 7] ++ sq 6 [mv 42])) .ret)))))
theorem fn104 : MFn Tryz.prog 104 mc104 43 [.tmp 6] := ⟨_, Tryz.func104, by kernel_rfl, Tryz.ntmps104, by kernel_rfl⟩
noncomputable def F_impl_grounds_count_l1 (rec : (List (List (List Int))) → Int → Int → Option Int) (g : (List (List (List Int)))) (many : Int) (length : Int) : (Int × Int) → Option ((Int × Int) ⊕ Int)
 | (sum, n) =>
  if (decide (n ≤ (IntKind.i64.wrap ((IntKind.i64.wrap (length - many)) + 1)))) = true then
   if 0 ≤ n ∧ n < 61 ∧ n < (g.length : Int) then
    if (decide (0 < ((g.getD n.toNat default).length : Int))) = true then
     (rec g (IntKind.i64.wrap (many - 1)) (IntKind.i64.wrap (length - n))).bind fun r =>
     some (.inl ((if 201 < (IntKind.i64.wrap (sum + (IntKind.i64.wrap (((g.getD n.toNat default).length : Int) * r)))) then 201 else (IntKind.i64.wrap (sum + (IntKind.i64.wrap (((g.getD n.toNat default).length : Int) * r))))), (IntKind.i64.wrap (n + 1))))
    else
     some (.inl (sum, (IntKind.i64.wrap (n + 1))))
   else none
  else
   Option.map Sum.inr (
    some sum)
noncomputable def F_impl_grounds_count : Nat → (List (List (List Int))) → Int → Int → Option Int
 | 0, _, _, _ => none
 | fu + 1, g, many, length =>
  if (many == 0) = true then
   if (length == 0) = true then
    some 1
   else
    some 0
  else
   loopC (F_impl_grounds_count_l1 (F_impl_grounds_count fu) g many length) (0, 1)
noncomputable def F_impl_grounds_count_all (g : (List (List (List Int)))) (many : Int) (length : Int) : Option Int := limO fun fu => F_impl_grounds_count fu g many length
noncomputable def F_slices_Grow_int64_int64 (n : Int) : Option (List Int) := if 0 ≤ n ∧ n * 8 ≤ 140737488355328 then some [] else none
instance c_slices_Grow_int64_int64 {n : Int} : HasC (F_slices_Grow_int64_int64 n) fun rr => ACalls Tryz.prog 129 [.d (.sl 0 (some true) []), .d (iD n)] [] 0 fun xx ss => xx = .own 1 0 (List.map iD rr) ∧ ss = [(0, .tok 2 1 rr.length)] := ⟨fun h => by
  obtain ⟨hp, h⟩ := need_some h
  cases h
  exact grow_nil (i0 := Tryz.t2) (z := _) Tryz.grow129 (by kernel_rfl) rfl (by decide) (by decide) (by decide) (by decide) hp.1 hp.2⟩
def mc106 : MCode :=
 (.seq (.reg (sq 2 [.mv (.const (.slice none 0 0))])) (.seq (.reg (sq 3 [mi 0])) (.seq (.seq (.reg (sq 9 [mv 0, ln 9, mi 0])) (.block 0 (.loop (.seq (.reg (sq 12 [bn .lss 11 10])) (.seq (.cond (t0 12) .skip (.exit 0)) (.seq (.block 1 (.seq (.reg (sq 13 [ix 1 9 11, ld 13] ++ sq 5 [mv 14])) (.seq (.reg (sq 15 [mv 3, mv 5, ln 16, bn .add 15 17] ++ sq 3 [mv 18])) (.seq (.reg (sq 19 [mv 3, bi .lss 19 0])) (.cond (t0 20) (.reg (sq 21 [.dead] ++ s0 .dead)) .skip))))) (.reg (sq 22 [bi .add 11 1] ++ sq 11 [mv 22])))))))) (.seq (.reg (sq 23 [mv 3, .callf 129 [(.const (.slice none 0 0)), (t0 23)]] ++ sq 6 [mv 24])) (.seq (.seq (.reg (sq 25 [mv 0, ln 25, mi 0])) (.block 2 (.loop (.seq (.reg (sq 28 [bn .lss 27 26])) (.seq (.cond (t0 28) .skip (.exit 2)) (.seq (.block 3 (.seq (.reg (sq 29 [ix 1 25 27, ld 29] ++ sq 8 [mv 30])) (.reg (sq 31 [mv 6, mv 8, ap 33 2 1 8 31 32] ++ sq 6 [mv 33])))) (.reg (sq 34 [bi .add 27 1] ++ sq 27 [mv 34])))))))) (.seq (.reg (sq 35 [mv 6] ++ sq 2 [mv 35])) .ret))))))
theorem fn106 : MFn Tryz.prog 106 mc106 36 [.tmp 2] := ⟨_, Tryz.func106, by kernel_rfl, Tryz.ntmps106, by kernel_rfl⟩
noncomputable def F_slices_Concat_int64_int64_l2 (slices : (List (List Int))) : ((List Int) × Int) → Option (((List Int) × Int) ⊕ (List Int))
 | (newslice, v27) =>
  if (decide (v27 < (slices.length : Int))) = true then
   if 0 ≤ v27 ∧ v27 < (slices.length : Int) then
    if (newslice.length + (slices.getD v27.toNat default).length) * 8 ≤ 140737488355328 then
     some (.inl ((newslice ++ (slices.getD v27.toNat default)), (IntKind.i64.wrap (v27 + 1))))
    else none
   else none
  else
   Option.map Sum.inr (
    some newslice)
noncomputable def F_slices_Concat_int64_int64_l1 (slices : (List (List Int))) : (Int × Int) → Option ((Int × Int) ⊕ (List Int))
 | (size, v11) =>
  if (decide (v11 < (slices.length : Int))) = true then
   if 0 ≤ v11 ∧ v11 < (slices.length : Int) then
    if (decide ((IntKind.i64.wrap (size + ((slices.getD v11.toNat default).length : Int))) < 0)) = true then
     none
    else
     some (.inl ((IntKind.i64.wrap (size + ((slices.getD v11.toNat default).length : Int))), (IntKind.i64.wrap (v11 + 1))))
   else none
  else
   Option.map Sum.inr (
    (F_slices_Grow_int64_int64 size).bind fun r =>
    loopC (F_slices_Concat_int64_int64_l2 slices) (r, 0))
noncomputable def F_slices_Concat_int64_int64 (slices : (List (List Int))) : Option (List Int) :=
 loopC (F_slices_Concat_int64_int64_l1 slices) (0, 0)
instance c_slices_Concat_int64_int64 {slices : (List (List Int))} : HasC (F_slices_Concat_int64_int64 slices) fun rr => ACalls Tryz.prog 106 [.d (slD 1 (slD 1 iD) slices)] [] 0 fun xx ss => xx = .own 1 24 (List.map iD rr) ∧ ss = [(24, .tok 2 1 rr.length)] := ⟨@fun rr h => by
  delta F_slices_Concat_int64_int64 at h
  refine fn106.callsO (vcm_sound ?_)
  delta mc106
  refine stp ?_
  refine m_lW h [3, 5, 11, 12, 13, 14, 15, 16, 17, 18, 19, 20, 21, 22] (fun pp => [(3, .d (iD pp.1)), (11, .d (iD pp.2))]) (fun pp => []) ?_
  rintro ⟨size, v11⟩ t1 h hb1
  unfold F_slices_Concat_int64_int64_l1 at h
  try dsimp only at h
  refine vcm_sound (stp ?_)
  refine iF h fun hc h => ?_
  replace h := inr_some h hb1
  refine rCo [] [(0, 24)] h fun r hr h => ?_
  refine m_lW h [6, 8, 27, 28, 29, 30, 31, 32, 33, 34] (fun pp => [(6, .own 1 24 (List.map iD pp.1)), (27, .d (iD pp.2))]) (fun pp => [(24, .tok 2 1 pp.1.length)]) ?_
  rintro ⟨newslice, v27⟩ t1 h hb1
  unfold F_slices_Concat_int64_int64_l2 at h
  try dsimp only at h
  refine vcm_sound (stp ?_)
  exact aut⟩
def mc105 : MCode :=
 (.seq (.reg (sq 6 [.mv (.const (.slice none 0 0))])) (.seq (.seq (.reg (sq 14 [mv 1, bi .eql 14 0])) (.cond (t0 15) (.seq (.seq (.reg (sq 16 [mv 2, bi .eql 16 0])) (.cond (t0 17) (.seq (.reg (sq 18 [.bsl 18 2 1 [], .bsl 19 22 1 [(t0 18)]] ++ sq 6 [mv 19])) .ret) .skip)) (.seq (.reg (sq 6 [.mv (.const (.slice none 0 0))])) .ret)) .skip)) (.seq (.reg (sq 7 [.mv (.const (.slice none 0 0))])) (.seq (.seq (.reg (sq 8 [mi 1])) (.block 0 (.loop (.seq (.seq (.reg (sq 20 [mv 8, mv 2, mv 1, bn .sub 21 22, bi .add 23 1, bn .leq 20 24])) (.cond (t0 25) .skip (.exit 0))) (.seq (.block 1 (.seq (.seq (.reg (sq 28 [mv 0, mv 8, .nilc (t0 28), .ixaA 1 61 (t0 30) (t0 29), ld 31, ln 32, bi .eql 33 0])) (.cond (t0 34) (.exit 1) .skip)) (.seq (.reg (sq 35 [mv 0, mv 1, bi .sub 36 1, mv 2, mv 8, bn .sub 38 39, cf 105 [35, 37, 40]] ++ sq 9 [mv 41])) (.seq (.reg (sq 42 [mv 0, mv 8, .nilc (t0 42), .ixaA 1 61 (t0 44) (t0 43), ld 45, ln 46, mi 0])) (.block 2 (.loop (.seq (.reg (sq 49 [bn .lss 48 47])) (.seq (.cond (t0 49) .skip (.exit 2)) (.seq (.block 3 (.seq (.reg (sq 50 [ix 1 46 48, ld 50] ++ sq 11 [mv 51])) (.seq (.reg (sq 52 [mv 9, ln 52, mi 0])) (.block 4 (.loop (.seq (.reg (sq 55 [bn .lss 54 53])) (.seq (.cond (t0 55) .skip (.exit 4)) (.seq (.block 5 (.seq (.reg (sq 56 [ix 1 52 54, ld 56] ++ sq 13 [mv 57])) (.reg (sq 58 [mv 7, mv 11, mv 13, .bsl 61 22 1 [(t0 59), (t0 60)], cf 106 [61], .bsl 63 22 1 [(t0 62)], ap 64 22 1 24 58 63] ++ sq 7 [mv 64])))) (.reg (sq 65 [bi .add 54 1] ++ sq 54 [mv 65])))))))))) (.reg (sq 66 [bi .add 48 1] ++ sq 48 [mv 66]))))))))))) (.reg (sq 26 [mv 8, bi .add 26 1] ++ sq 8 [mv 27]))))))) (.seq (.reg (sq 67 [mv 7] ++ sq 6 [mv 67])) .ret)))))
theorem fn105 : MFn Tryz.prog 105 mc105 68 [.tmp 6] := ⟨_, Tryz.func105, by kernel_rfl, Tryz.ntmps105, by kernel_rfl⟩
noncomputable def F_impl_grounds_lists_l3 (g : (List (List (List Int)))) (length : Int) (n : Int) (r : (List (List Int))) (v48 : Int) : ((List (List Int)) × Int) → Option (((List (List Int)) × Int) ⊕ (((List (List Int)) × Int) ⊕ (((List (List Int)) × Int) ⊕ (List (List Int)))))
 | (out_2, v54) =>
  if (decide (v54 < (r.length : Int))) = true then
   if 0 ≤ v54 ∧ v54 < (r.length : Int) then
    (F_slices_Concat_int64_int64 [((g.getD n.toNat default).getD v48.toNat default), (r.getD v54.toNat default)]).bind fun r_1 =>
    if (out_2.length + 1) * 24 ≤ 140737488355328 then
     some (.inl ((out_2 ++ [r_1]), (IntKind.i64.wrap (v54 + 1))))
    else none
   else none
  else
   Option.map Sum.inr (
    some (.inl (out_2, (IntKind.i64.wrap (v48 + 1)))))
noncomputable def F_impl_grounds_lists_l2 (g : (List (List (List Int)))) (length : Int) (n : Int) (r : (List (List Int))) : ((List (List Int)) × Int) → Option (((List (List Int)) × Int) ⊕ (((List (List Int)) × Int) ⊕ (List (List Int))))
 | (out_1, v48) =>
  if (decide (v48 < ((g.getD n.toNat default).length : Int))) = true then
   if 0 ≤ v48 ∧ v48 < ((g.getD n.toNat default).length : Int) then
    loopC (F_impl_grounds_lists_l3 g length n r v48) (out_1, 0)
   else none
  else
   Option.map Sum.inr (
    some (.inl (out_1, (IntKind.i64.wrap (n + 1)))))
noncomputable def F_impl_grounds_lists_l1 (rec : (List (List (List Int))) → Int → Int → Option (List (List Int))) (g : (List (List (List Int)))) (many : Int) (length : Int) : ((List (List Int)) × Int) → Option (((List (List Int)) × Int) ⊕ (List (List Int)))
 | (out, n) =>
  if (decide (n ≤ (IntKind.i64.wrap ((IntKind.i64.wrap (length - many)) + 1)))) = true then
   if 0 ≤ n ∧ n < 61 ∧ n < (g.length : Int) then
    if (((g.getD n.toNat default).length : Int) == 0) = true then
     some (.inl (out, (IntKind.i64.wrap (n + 1))))
    else
     (rec g (IntKind.i64.wrap (many - 1)) (IntKind.i64.wrap (length - n))).bind fun r =>
     if 0 ≤ n ∧ n < 61 ∧ n < (g.length : Int) then
      loopC (F_impl_grounds_lists_l2 g length n r) (out, 0)
     else none
   else none
  else
   Option.map Sum.inr (
    some out)
noncomputable def F_impl_grounds_lists : Nat → (List (List (List Int))) → Int → Int → Option (List (List Int))
 | 0, _, _, _ => none
 | fu + 1, g, many, length =>
  if (many == 0) = true then
   if (length == 0) = true then
    some [[]]
   else
    some []
  else
   loopC (F_impl_grounds_lists_l1 (F_impl_grounds_lists fu) g many length) ([], 1)
noncomputable def F_impl_grounds_lists_all (g : (List (List (List Int)))) (many : Int) (length : Int) : Option (List (List Int)) := limO fun fu => F_impl_grounds_lists fu g many length
end Go.Proofs.YtcbfefbocpikoaaGreat
namespace Abx
open Go
theorem getD_aD_app {α : Type} [Inhabited α] {f : α → D} {xs : List α} {r : List AV} {i : Nat} (h : i < xs.length) : (xs.map (aD f) ++ r).getD i .junk = .d (f (xs.getD i default)) := by
  rw [List.getD_eq_getElem?_getD, List.getElem?_append_left (by rw [List.length_map]; exact h), ← List.getD_eq_getElem?_getD]; exact getD_aD h
def nilD (_ : Unit) : D := .sl 0 (some true) []
attribute [go_sem] getD_aD_app
end Abx
namespace Go.Proofs.YtcbfefbocpikoaaGreat
open Go Abx
attribute [local irreducible] vcm vgo vdr vrun vdrun MWp GhostQ BrC BrO BrG BrD BrH AmbO callR callD drQ EnvLe StoLe
set_option maxHeartbeats 4000000
theorem h_impl_grounds_count : ∀ {fu : Nat} {g : (List (List (List Int)))} {many : Int} {length : Int} {hs : List (List Int)} {zs : List Unit} {rr : Int} (h : F_impl_grounds_count fu g many length = some rr), ACalls Tryz.prog 104 [.ptr 0 0, .d (iD many), .d (iD length)] [(0, .obj 121 (List.map (aD (slD 1 (slD 1 iD))) g ++ .gow 1 1 hs.length :: List.map (aD nilD) zs)), (1, .gro 22 1 hs.length (groL (slD 1 iD) hs))] 2 fun xx ss => xx = .d (iD rr) ∧ ss = [(0, .obj 121 (List.map (aD (slD 1 (slD 1 iD))) g ++ .gow 1 1 hs.length :: List.map (aD nilD) zs)), (1, .gro 22 1 hs.length (groL (slD 1 iD) hs))]
  | 0, _, _, _, _, _, _, h => by cases h
  | fu + 1, g, many, length, hs, zs, rr, h => by
    have ih : ∀ {many : Int} {length : Int}, HasC (F_impl_grounds_count fu g many length) fun rr => ACalls Tryz.prog 104 [.ptr 0 0, .d (iD many), .d (iD length)] [(0, .obj 121 (List.map (aD (slD 1 (slD 1 iD))) g ++ .gow 1 1 hs.length :: List.map (aD nilD) zs)), (1, .gro 22 1 hs.length (groL (slD 1 iD) hs))] 2 fun xx ss => xx = .d (iD rr) ∧ ss = [(0, .obj 121 (List.map (aD (slD 1 (slD 1 iD))) g ++ .gow 1 1 hs.length :: List.map (aD nilD) zs)), (1, .gro 22 1 hs.length (groL (slD 1 iD) hs))] := ⟨fun h => h_impl_grounds_count h⟩
    unfold F_impl_grounds_count at h
    refine fn104.callsO (vcm_sound ?_)
    delta mc104
    refine stp ?_
    refine iF h fun hc h => ?_
    refine m_lW h [7, 8, 9, 14, 15, 16, 17, 18, 19, 20, 21, 22, 23, 24, 25, 26, 27, 28, 29, 30, 31, 32, 33, 34, 35, 36, 37, 38, 39, 40, 41] (fun pp => [(7, .d (iD pp.1)), (8, .d (iD pp.2))]) (fun pp => [(0, .obj 121 (List.map (aD (slD 1 (slD 1 iD))) g ++ .gow 1 1 hs.length :: List.map (aD nilD) zs)), (1, .gro 22 1 hs.length (groL (slD 1 iD) hs))]) ?_
    rintro ⟨sum, n⟩ t1 h hb1
    unfold F_impl_grounds_count_l1 at h
    try dsimp only at h
    refine vcm_sound (stp ?_)
    refine iT h fun hc h => ?_
    refine ndI h fun hp h => ?_
    refine iT h fun hc h => ?_
    refine rCo [(0, 0), (1, 1)] [] h fun r hr h => ?_
    exact aut
theorem h_impl_grounds_lists : ∀ {fu : Nat} {g : (List (List (List Int)))} {many : Int} {length : Int} {hs : List (List Int)} {zs : List Unit} {rr : (List (List Int))} (h : F_impl_grounds_lists fu g many length = some rr), ACalls Tryz.prog 105 [.ptr 0 0, .d (iD many), .d (iD length)] [(0, .obj 121 (List.map (aD (slD 1 (slD 1 iD))) g ++ .gow 1 1 hs.length :: List.map (aD nilD) zs)), (1, .gro 22 1 hs.length (groL (slD 1 iD) hs))] 2 fun xx ss => xx = .d (slD 1 (slD 1 iD) rr) ∧ ss = [(0, .obj 121 (List.map (aD (slD 1 (slD 1 iD))) g ++ .gow 1 1 hs.length :: List.map (aD nilD) zs)), (1, .gro 22 1 hs.length (groL (slD 1 iD) hs))]
  | 0, _, _, _, _, _, _, h => by cases h
  | fu + 1, g, many, length, hs, zs, rr, h => by
    have ih : ∀ {many : Int} {length : Int}, HasC (F_impl_grounds_lists fu g many length) fun rr => ACalls Tryz.prog 105 [.ptr 0 0, .d (iD many), .d (iD length)] [(0, .obj 121 (List.map (aD (slD 1 (slD 1 iD))) g ++ .gow 1 1 hs.length :: List.map (aD nilD) zs)), (1, .gro 22 1 hs.length (groL (slD 1 iD) hs))] 2 fun xx ss => xx = .d (slD 1 (slD 1 iD) rr) ∧ ss = [(0, .obj 121 (List.map (aD (slD 1 (slD 1 iD))) g ++ .gow 1 1 hs.length :: List.map (aD nilD) zs)), (1, .gro 22 1 hs.length (groL (slD 1 iD) hs))] := ⟨fun h => h_impl_grounds_lists h⟩
    unfold F_impl_grounds_lists at h
    refine fn105.callsO (vcm_sound ?_)
    delta mc105
    refine stp ?_
    refine it h (fun hc h => ?_) fun hc h => ?_
    · refine iT h fun hc h => ?_
      cases h
      exact ⟨[18, 19], by simp, don, don⟩
    refine m_loopF h [7, 8, 9, 11, 13, 20, 21, 22, 23, 24, 25, 26, 27, 28, 29, 30, 31, 32, 33, 34, 35, 36, 37, 38, 39, 40, 41, 42, 43, 44, 45, 46, 47, 48, 49, 50, 51, 52, 53, 54, 55, 56, 57, 58, 59, 60, 61, 62, 63, 64, 65, 66] (fun pp => [(7, .own 1 64 (List.map (slD 1 iD) pp.1)), (8, .d (iD pp.2))]) (fun pp => [(0, .obj 121 (List.map (aD (slD 1 (slD 1 iD))) g ++ .gow 1 1 hs.length :: List.map (aD nilD) zs)), (1, .gro 22 1 hs.length (groL (slD 1 iD) hs)), (64, .tok 22 1 pp.1.length)]) ?_ ?_
    · try dsimp only
      refine (Weak.thaw 7 64 22 1 rfl rfl).trans ?_
      exact wk
    rintro ⟨out, n⟩ t1 h hb1
    unfold F_impl_grounds_lists_l1 at h
    try dsimp only at h
    refine vcm_sound (stp ?_)
    refine it h (fun hc h => ?_) fun hc h => ?_
    · refine ndI h fun hp h => ?_
      refine iF h fun hc h => ?_
      refine rCo [(0, 0), (1, 1)] [] h fun r hr h => ?_
      refine ndI h fun hp h => ?_
      refine m_lW h [7, 11, 13, 48, 49, 50, 51, 52, 53, 54, 55, 56, 57, 58, 59, 60, 61, 62, 63, 64, 65, 66] (fun pp => [(7, .own 1 64 (List.map (slD 1 iD) pp.1)), (48, .d (iD pp.2))]) (fun pp => [(0, .obj 121 (List.map (aD (slD 1 (slD 1 iD))) g ++ .gow 1 1 hs.length :: List.map (aD nilD) zs)), (1, .gro 22 1 hs.length (groL (slD 1 iD) hs)), (64, .tok 22 1 pp.1.length)]) ?_
      rintro ⟨out_1, v48⟩ t2 h hb2
      unfold F_impl_grounds_lists_l2 at h
      try dsimp only at h
      refine vcm_sound (stp ?_)
      refine iT h fun hc h => ?_
      refine ndI h fun hp h => ?_
      refine m_lW h [7, 13, 54, 55, 56, 57, 58, 59, 60, 61, 62, 63, 64, 65] (fun pp => [(7, .own 1 64 (List.map (slD 1 iD) pp.1)), (54, .d (iD pp.2))]) (fun pp => [(0, .obj 121 (List.map (aD (slD 1 (slD 1 iD))) g ++ .gow 1 1 hs.length :: List.map (aD nilD) zs)), (1, .gro 22 1 hs.length (groL (slD 1 iD) hs)), (64, .tok 22 1 pp.1.length)]) ?_
      rintro ⟨out_2, v54⟩ t3 h hb3
      unfold F_impl_grounds_lists_l3 at h
      try dsimp only at h
      refine vcm_sound (stp ?_)
      refine iT h fun hc h => ?_
      refine ndI h fun hp h => ?_
      refine rCo [] [(24, 62)] h fun r_1 hr_1 h => ?_
      refine ndI h fun hp h => ?_
      cases h
      refine ⟨_, rfl, ?_⟩
      refine (Weak.drop 61 (by omega)).trans ?_
      refine (Weak.drop 62 (by omega)).trans ?_
      refine (Weak.drop 63 (by omega)).trans ?_
      exact wk
    replace h := inr_some h hb1
    cases h
    exact ⟨[64], by simp, don, don⟩
end Go.Proofs.YtcbfefbocpikoaaGreat
namespace Abx
open Go
theorem set_hole {α : Type} {f : α → D} {gs : List α} {zs : List Unit} {x y : AV} : (List.map (aD f) gs ++ x :: List.map (aD nilD) zs).set gs.length y = List.map (aD f) gs ++ y :: List.map (aD nilD) zs := by
  rw [List.set_append_right _ _ (by simp)]; simp
theorem get_hole {α : Type} {f : α → D} {gs : List α} {zs : List Unit} {x : AV} : (List.map (aD f) gs ++ x :: List.map (aD nilD) zs).getD gs.length .junk = x := by
  rw [List.getD_eq_getElem?_getD, List.getElem?_append_right (by simp)]; simp
theorem put_hole {α : Type} {f : α → D} {gs : List α} {zs : List Unit} {x y : AV} : List.take gs.length (List.map (aD f) gs ++ x :: List.map (aD nilD) zs) ++ ([y] ++ List.drop (gs.length + 1) (List.map (aD f) gs ++ x :: List.map (aD nilD) zs)) = List.map (aD f) gs ++ y :: List.map (aD nilD) zs := by
  have e : gs.length = (List.map (aD f) gs).length := by simp
  rw [List.take_append_of_le_length (by simp), List.take_of_length_le (by simp), e, List.drop_append]
  simp
theorem put_hole' {α : Type} {f : α → D} {gs : List α} {zs : List Unit} {x y : AV} : List.take gs.length (List.map (aD f) gs ++ x :: List.map (aD nilD) zs) ++ [y] ++ List.drop (gs.length + 1) (List.map (aD f) gs ++ x :: List.map (aD nilD) zs) = List.map (aD f) gs ++ y :: List.map (aD nilD) zs := by
  rw [List.append_assoc]; exact put_hole
attribute [go_sem] set_hole get_hole put_hole put_hole'
end Abx
namespace Go.Proofs.YtcbfefbocpikoaaGreat
open Go Abx
attribute [local irreducible] vcm vgo vdr vrun vdrun MWp GhostQ BrC BrO BrG BrD BrH AmbO callR callD drQ EnvLe StoLe
set_option maxHeartbeats 4000000
abbrev LL := List (List Int)
abbrev GSt := List LL × LL
theorem frzs_app {id : Nat} {ds : List D} : ∀ {xs ys : List AV}, AV.frzs id ds (xs ++ ys) = AV.frzs id ds xs ++ AV.frzs id ds ys
  | [], ys => by simp [AV.frzs]
  | x :: xs, ys => by simp [AV.frzs, frzs_app (xs := xs)]
theorem frzs_hole {gs : List LL} {zs : List Unit} {hs : LL} : AV.frzs 100 (List.map (slD 1 iD) (sortT hs)) (List.map (aD (slD 1 (slD 1 iD))) gs ++ AV.gow 1 100 hs.length :: List.map (aD nilD) zs) = List.map (aD (slD 1 (slD 1 iD))) gs ++ .d (slD 1 (slD 1 iD) (sortT hs)) :: List.map (aD nilD) zs := by
  rw [frzs_app, frzs_cons, frzs_aD, frzs_aD, frz_gowN sortT_len.symm]
attribute [go_sem] frzs_hole
theorem groL_snoc1 {hs : LL} {r : List Int} : groL (slD 1 iD) (hs ++ [r]) = groL (slD 1 iD) hs ++ [D.sl 1 none (List.map iD r)] := by simp [groL, slD, dcells]
noncomputable def FG_l6 (f : Int) (r : LL) (v53 : Int) : (LL × Int) → Option ((LL × Int) ⊕ ((LL × Int) ⊕ (GSt ⊕ (LL × Bool))))
 | (hs, v63) =>
  if (decide (v63 < (r.length : Int))) = true then
   if 0 ≤ v63 ∧ v63 < (r.length : Int) then
    (F_slices_Concat_int64_int64 [[f], (r.getD v63.toNat default)]).bind fun r_1 =>
    if (hs.length + 1) * 24 ≤ 140737488355328 then
     some (.inl ((hs ++ [r_1]), (IntKind.i64.wrap (v63 + 1))))
    else none
   else none
  else
   Option.map Sum.inr (
    some (.inl (hs, (IntKind.i64.wrap (v53 + 1)))))
noncomputable def FG_l4 (sig : List Int) (gs : List LL) (out : LL) : (LL × Int) → Option ((LL × Int) ⊕ (GSt ⊕ (LL × Bool)))
 | (hs, v53) =>
  if (decide (v53 < (sig.length : Int))) = true then
   if 0 ≤ v53 ∧ v53 < (sig.length : Int) then
    (F_impl_grounds_lists_all gs (sig.getD v53.toNat default) (IntKind.i64.wrap ((gs.length : Int) - 1))).bind fun r =>
    loopC (FG_l6 v53 r v53) (hs, 0)
   else none
  else
   Option.map Sum.inr (
    (F_sortT hs).bind fun u =>
    if (out.length + (sortT hs).length) * 24 ≤ 140737488355328 then
     some (.inl (gs ++ [sortT hs], out ++ sortT hs))
    else none)
noncomputable def FG_l2 (sig : List Int) (gs : List LL) (out : LL) : (Int × Int) → Option ((Int × Int) ⊕ (GSt ⊕ (LL × Bool)))
 | (many, v37) =>
  if (decide (v37 < (sig.length : Int))) = true then
   if 0 ≤ v37 ∧ v37 < (sig.length : Int) then
    (F_impl_grounds_count_all gs (sig.getD v37.toNat default) (IntKind.i64.wrap ((gs.length : Int) - 1))).bind fun r =>
    some (.inl ((IntKind.i64.wrap (many + r)), (IntKind.i64.wrap (v37 + 1))))
   else none
  else
   Option.map Sum.inr (
    if (decide (200 < many)) = true then
     Option.map Sum.inr (
      some ([], false))
    else
     loopC (FG_l4 sig gs out) ([], 0))
noncomputable def FG_l1 (sig : List Int) (n : Int) : GSt → Option (GSt ⊕ (LL × Bool))
 | (gs, out) =>
  if (decide ((gs.length : Int) ≤ n)) = true then
   if gs.length < 61 then
    loopC (FG_l2 sig gs out) ((out.length : Int), 0)
   else none
  else
   Option.map Sum.inr (
    some (out, true))
noncomputable def F_impl_GroundsOf (sig : List Int) (n : Int) : Option (LL × Bool) :=
 (F_impl_SigOk sig).bind fun r =>
 if r = true then
  if (decide (n < 1)) = true then
   some ([], false)
  else
   if (decide (60 < n)) = true then
    some ([], false)
   else
    loopC (FG_l1 sig n) ([[]], [])
 else
  some ([], false)
def mc66g : MCode :=
 (.seq (.reg (sq 2 [bo 2 30 0] ++ sq 4 [.mv (.const (.slice none 0 0)), mb false])) (.seq (.seq (.reg (sq 16 [la 1 2, cf 82 [16], nt 17, mv 18] ++ sg 19 false 20 [mv 1, bi .lss 20 1] ++ sq 22 [po 19 21, mv 22] ++ sg 23 false 24 [mv 1, bi .gtr 24 60] ++ sq 26 [po 23 25])) (.cond (t0 26) (.seq (.reg (sq 4 [.mv (.const (.slice none 0 0)), mb false])) .ret) .skip)) (.seq (.reg (sq 6 [.alloc 6 121 [.sl 0 (some true) [], .sl 0 (some true) [], .sl 0 (some true) [], .sl 0 (some true) [], .sl 0 (some true) [], .sl 0 (some true) [], .sl 0 (some true) [], .sl 0 (some true) [], .sl 0 (some true) [], .sl 0 (some true) [], .sl 0 (some true) [], .sl 0 (some true) [], .sl 0 (some true) [], .sl 0 (some true) [], .sl 0 (some true) [], .sl 0 (some true) [], .sl 0 (some true) [], .sl 0 (some true) [], .sl 0 (some true) [], .sl 0 (some true) [], .sl 0 (some true) [], .sl 0 (some true) [], .sl 0 (some true) [], .sl 0 (some true) [], .sl 0 (some true) [], .sl 0 (some true) [], .sl 0 (some true) [], .sl 0 (some true) [], .sl 0 (some true) [], .sl 0 (some true) [], .sl 0 (some true) [], .sl 0 (some true) [], .sl 0 (some true) [], .sl 0 (some true) [], .sl 0 (some true) [], .sl 0 (some true) [], .sl 0 (some true) [], .sl 0 (some true) [], .sl 0 (some true) [], .sl 0 (some true) [], .sl 0 (some true) [], .sl 0 (some true) [], .sl 0 (some true) [], .sl 0 (some true) [], .sl 0 (some true) [], .sl 0 (some true) [], .sl 0 (some true) [], .sl 0 (some true) [], .sl 0 (some true) [], .sl 0 (some true) [], .sl 0 (some true) [], .sl 0 (some true) [], .sl 0 (some true) [], .sl 0 (some true) [], .sl 0 (some true) [], .sl 0 (some true) [], .sl 0 (some true) [], .sl 0 (some true) [], .sl 0 (some true) [], .sl 0 (some true) [], .sl 0 (some true) []]])) (.seq (.reg (sq 7 [.mv (.const (.slice none 0 0))])) (.seq (.seq (.reg (sq 8 [mi 1])) (.block 0 (.loop (.seq (.seq (.reg (sq 27 [mv 8, mv 1, bn .leq 27 28])) (.cond (t0 29) .skip (.exit 0))) (.seq (.block 1 (.seq (.reg (sq 32 [mv 7, ln 32] ++ sq 9 [mv 33])) (.seq (.seq (.reg (sq 34 [fa 0 2, ld 34, ln 35, mi 0])) (.block 2 (.loop (.seq (.reg (sq 38 [bn .lss 37 36])) (.seq (.cond (t0 38) .skip (.exit 2)) (.seq (.block 3 (.seq (.reg (sq 39 [ix 1 35 37, ld 39] ++ sq 11 [mv 40])) (.reg (sq 41 [mv 9, mv 11, mv 8, bi .sub 43 1, cf 104 [6, 42, 44], bn .add 41 45] ++ sq 9 [mv 46])))) (.reg (sq 47 [bi .add 37 1] ++ sq 37 [mv 47])))))))) (.seq (.seq (.reg (sq 48 [mv 9, bi .gtr 48 200])) (.cond (t0 49) (.seq (.reg (sq 4 [.mv (.const (.slice none 0 0)), mb false])) .ret) .skip)) (.seq (.seq (.reg (sq 50 [fa 0 2, ld 50, ln 51, mi 0])) (.block 4 (.loop (.seq (.reg (sq 54 [bn .lss 53 52])) (.seq (.cond (t0 54) .skip (.exit 4)) (.seq (.block 5 (.seq (.reg (sq 55 [mv 53, ix 1 51 53, ld 56] ++ sq 12 [mv 55, mv 57])) (.seq (.reg (sq 58 [mv 13, mv 8, bi .sub 59 1, cf 105 [6, 58, 60], ln 61, mi 0])) (.block 6 (.loop (.seq (.reg (sq 64 [bn .lss 63 62])) (.seq (.cond (t0 64) .skip (.exit 6)) (.seq (.block 7 (.seq (.reg (sq 65 [ix 1 61 63, ld 65] ++ sq 15 [mv 66])) (.draw (sq 67 [mv 8, mv 8, .ixaA 1 61 (t0 6) (t0 68), ld 69, mv 12, .bsl 72 2 1 [(t0 71)], mv 15, .bsl 74 22 1 [(t0 72), (t0 73)], cf 106 [74], .bsl 76 22 1 [(t0 75)], ap 77 22 1 24 70 76, .ixaA 1 61 (t0 6) (t0 67)] ++ s0 (sr 1 78 77)) [[], [], [1], [2], [], [4], [], [5, 6], [7], [8], [3, 9, 8], [0, 0, 1, 2, 3, 4, 5, 6, 7, 8, 9, 10], [11, 10, 10, 0, 1, 2, 3, 4, 5, 6, 7, 8, 9, 10]]))) (.reg (sq 79 [bi .add 63 1] ++ sq 63 [mv 79])))))))))) (.reg (sq 80 [bi .add 53 1] ++ sq 53 [mv 80])))))))) (.seq (.reg (sq 81 [mv 8, .ixaA 1 61 (t0 6) (t0 81), ld 82, .callf 93 [(t0 83), (.func 94)]])) (.ghost (.reg (sq 85 [mv 7, mv 8, .ixaA 1 61 (t0 6) (t0 86), ld 87, ap 89 22 1 24 85 88] ++ sq 7 [mv 89]))))))))) (.reg (sq 30 [mv 8, bi .add 30 1] ++ sq 8 [mv 31]))))))) (.seq (.reg (sq 90 [mv 7] ++ sq 4 [mv 90, mb true])) .ret))))))
theorem fn66g : MFn Tryz.prog 66 mc66g 91 [.tmp 4, .tmp 5] := ⟨_, Tryz.func66, by kernel_rfl, Tryz.ntmps66, by kernel_rfl⟩
instance c_impl_GroundsOf {sig : List Int} {n : Int} : HasC (F_impl_GroundsOf sig n) fun rr => PFunN Tryz.prog 66 [D_impl_Sig sig, iD n] [slD 1 (slD 1 iD) rr.1, bD rr.2] := ⟨@fun rr h => by
  delta F_impl_GroundsOf at h
  refine fn66g.pureLN (vcm_sound ?_)
  delta mc66g
  refine stp ?_
  refine rC h fun r hr h => ?_
  refine iT h fun hc h => ?_
  refine iF h fun hc h => ?_
  refine iF h fun hc h => ?_
  refine m_loopF h [7, 8, 9, 10, 11, 12, 13, 14, 15, 27, 28, 29, 30, 31, 32, 33, 34, 35, 36, 37, 38, 39, 40, 41, 42, 43, 44, 45, 46, 47, 48, 49, 50, 51, 52, 53, 54, 55, 56, 57, 58, 59, 60, 61, 62, 63, 64, 65, 66, 67, 68, 69, 70, 71, 72, 73, 74, 75, 76, 77, 78, 79, 80, 81, 82, 83, 84, 85, 86, 87, 88, 89] (fun pp => [(7, .own 1 101 (List.map (slD 1 iD) pp.2)), (8, .d (iD (pp.1.length : Int)))]) (fun pp => [(2, .obj 30 [.d (slD 1 iD sig)]), (6, .obj 121 (List.map (aD (slD 1 (slD 1 iD))) pp.1 ++ List.map (aD nilD) (List.replicate (61 - pp.1.length) ()))), (101, .tok 22 1 pp.2.length)]) ?_ ?_
  · try dsimp only
    refine (Weak.thaw 7 101 22 1 rfl rfl).trans ?_
    exact wk
  rintro ⟨gs, out⟩ t1 h hb1
  unfold FG_l1 at h
  try dsimp only at h
  refine vcm_sound (stp ?_)
  refine iT h fun hc h => ?_
  refine ndI h fun hp h => ?_
  obtain ⟨zs, hz⟩ : ∃ zs, List.replicate (61 - gs.length) () = () :: zs := ⟨List.replicate (60 - gs.length) (), by rw [show 61 - gs.length = 60 - gs.length + 1 by omega]; rfl⟩
  rw [hz]
  have hzl : zs = List.replicate (60 - gs.length) () := by rw [show 61 - gs.length = 60 - gs.length + 1 by omega] at hz; exact (List.cons.inj hz).2.symm
  refine m_loopF h [9, 10, 11, 37, 38, 39, 40, 41, 42, 43, 44, 45, 46, 47] (fun pp => [(9, .d (iD pp.1)), (37, .d (iD pp.2))]) (fun pp => [(2, .obj 30 [.d (slD 1 iD sig)]), (6, .obj 121 (List.map (aD (slD 1 (slD 1 iD))) gs ++ .gow 1 100 0 :: List.map (aD nilD) zs)), (100, .gro 22 1 0 (groL (slD 1 iD) ([] : LL))), (101, .tok 22 1 out.length)]) ?_ ?_
  · try dsimp only
    refine (Weak.thawCellG 6 gs.length 100 22 1 rfl rfl (by rw [List.getElem?_append_right (by simp)]; simp; rfl)).trans ?_
    exact wk
  rintro ⟨many, v37⟩ t2 h hb2
  unfold FG_l2 at h
  try dsimp only at h
  refine vcm_sound (stp ?_)
  refine it h (fun hc h => ?_) fun hc h => ?_
  · refine ndI h fun hp h => ?_
    refine rCo (i := ⟨fun h => h_impl_grounds_count (hs := []) (zs := zs) (limO_some h).choose_spec⟩) [(0, 6), (1, 100)] [] h fun r hr h => ?_
    exact aut
  replace h := inr_some h hb2
  refine iF h fun hc h => ?_
  refine m_loopF h [12, 13, 14, 15, 53, 54, 55, 56, 57, 58, 59, 60, 61, 62, 63, 64, 65, 66, 67, 68, 69, 70, 71, 72, 73, 74, 75, 76, 77, 78, 79, 80] (fun pp => [(53, .d (iD pp.2))]) (fun pp => [(2, .obj 30 [.d (slD 1 iD sig)]), (6, .obj 121 (List.map (aD (slD 1 (slD 1 iD))) gs ++ .gow 1 100 pp.1.length :: List.map (aD nilD) zs)), (100, .gro 22 1 pp.1.length (groL (slD 1 iD) pp.1)), (101, .tok 22 1 out.length)]) ?_ ?_
  · try dsimp only
    exact wk
  rintro ⟨hs, v53⟩ t3 h hb3
  unfold FG_l4 at h
  try dsimp only at h
  refine vcm_sound (stp ?_)
  refine it h (fun hc h => ?_) fun hc h => ?_
  · refine ndI h fun hp h => ?_
    refine rCo (i := ⟨fun h => h_impl_grounds_lists (hs := hs) (zs := zs) (limO_some h).choose_spec⟩) [(0, 6), (1, 100)] [] h fun r hr h => ?_
    refine m_lW h [15, 63, 64, 65, 66, 67, 68, 69, 70, 71, 72, 73, 74, 75, 76, 77, 78, 79] (fun pp => [(63, .d (iD pp.2))]) (fun pp => [(2, .obj 30 [.d (slD 1 iD sig)]), (6, .obj 121 (List.map (aD (slD 1 (slD 1 iD))) gs ++ .gow 1 100 pp.1.length :: List.map (aD nilD) zs)), (100, .gro 22 1 pp.1.length (groL (slD 1 iD) pp.1)), (101, .tok 22 1 out.length)]) ?_
    rintro ⟨hs_1, v63⟩ t4 h hb4
    unfold FG_l6 at h
    try dsimp only at h
    refine vcm_sound (stp ?_)
    refine it h (fun hc h => ?_) fun hc h => ?_
    · refine ndI h fun hp h => ?_
      refine dCo [] [(24, 75)] h fun r_1 hr_1 h => ?_
      refine ndI h fun hp h => ?_
      refine drQ_of (by kernel_rfl) (stp ?_)
      cases h
      refine ⟨_, rfl, ?_⟩
      refine (Weak.drop 72 (by omega)).trans ?_
      refine (Weak.drop 74 (by omega)).trans ?_
      refine (Weak.drop 75 (by omega)).trans ?_
      refine (Weak.drop 76 (by omega)).trans ?_
      simp only [groL_snoc1]
      exact wk
    replace h := inr_some h hb4
    cases h
    refine ⟨_, rfl, ?_⟩
    exact wk
  replace h := inr_some h hb3
  refine ⟨⟨by omega, by omega⟩, by omega, ?_⟩
  refine rCo [(0, 100)] [] h fun u hu h => ?_
  refine GhostQ.of (Weak.fz 100 (slD 1 iD) rfl (sortT hs)) ?_
  refine stpf ?_
  refine stp ?_
  have hl := sortT_len (xs := hs)
  refine ⟨⟨by omega, by omega⟩, by omega, ?_⟩
  obtain ⟨hq, h⟩ := need_some h
  cases h
  refine ⟨by omega, _, rfl, ?_⟩
  have hw : IntKind.i64.wrap ((gs.length : Int) + 1) = ((gs ++ [sortT hs]).length : Int) := by rw [wrap_i64 (by omega) (by omega)]; simp
  have he : List.map (aD (slD 1 (slD 1 iD))) (gs ++ [sortT hs]) ++ List.map (aD nilD) (List.replicate (61 - (gs ++ [sortT hs]).length) ()) = List.map (aD (slD 1 (slD 1 iD))) gs ++ AV.d (slD 1 (slD 1 iD) (sortT hs)) :: List.map (aD nilD) zs := by rw [hzl, List.map_append, List.append_assoc, show 61 - (gs ++ [sortT hs]).length = 60 - gs.length by simp]; rfl
  simp only [he, hw]
  exact wk⟩
end Go.Proofs.YtcbfefbocpikoaaGreat
namespace Go.Proofs.YtcbfefbocpikoaaGreat
open Go Abx
attribute [local irreducible] vcm vgo vdr vrun vdrun MWp GhostQ BrC BrO BrG BrD BrH AmbO callR callD drQ EnvLe StoLe
set_option maxHeartbeats 4000000
def D_impl_Step (x : (Int × Int × (List Int))) : D := .agg [iD x.1, iD x.2.1, (slD 1 iD) x.2.2]
def D_impl_Walk (x : ((List Int) × (List (Int × Int × (List Int))))) : D := .agg [(slD 1 iD) x.1, (slD 3 D_impl_Step) x.2]
instance : Cel D_impl_Step 3 := ⟨fun _ => rfl⟩
instance : Cel D_impl_Walk 2 := ⟨fun _ => rfl⟩
attribute [go_sem] D_impl_Step D_impl_Walk
def mc63 : MCode :=
 (.seq (.reg (sq 1 [bo 1 33 0, .mv (.const (.slice none 0 0))])) (.seq (.reg (sq 5 [.bsl 5 2 1 []] ++ sq 3 [mv 5])) (.seq (.seq (.reg (sq 4 [mi 0])) (.block 0 (.loop (.seq (.seq (.reg (sq 6 [mv 4, fa 1 1, ld 7, ln 8, bn .lss 6 9])) (.cond (t0 10) .skip (.exit 0))) (.seq (.block 1 (.reg (sq 13 [mv 3, fa 1 1, ld 14, mv 4, ix 2 15 16, fa 0 17, ld 18, .ixa 1 (t0 19) (i0 0), ld 20, cf 75 [13, 21]] ++ sq 3 [mv 22]))) (.reg (sq 11 [mv 4, bi .add 11 1] ++ sq 4 [mv 12]))))))) (.seq (.reg (sq 23 [mv 3] ++ sq 2 [mv 23])) .ret))))
theorem fn63 : MFn Tryz.prog 63 mc63 24 [.tmp 2] := ⟨_, Tryz.func63, by kernel_rfl, Tryz.ntmps63, by kernel_rfl⟩
noncomputable def F_spec_l6Defined_l1 (sys : ((List Int) × (List ((List Int) × (List Int))))) : ((List Int) × Int) → Option (((List Int) × Int) ⊕ (List Int))
 | (out, i) =>
  if (decide (i < (sys.2.length : Int))) = true then
   if 0 ≤ i ∧ i < (sys.2.length : Int) then
    if 0 ≤ 0 ∧ 0 < (((sys.2.getD i.toNat default).1).length : Int) then
     (F_spec_l1Into out (((sys.2.getD i.toNat default).1).getD 0 default)).bind fun r =>
     some (.inl (r, (IntKind.i64.wrap (i + 1))))
    else none
   else none
  else
   Option.map Sum.inr (
    some out)
noncomputable def F_spec_l6Defined (sys : ((List Int) × (List ((List Int) × (List Int))))) : Option (List Int) :=
 loopC (F_spec_l6Defined_l1 sys) ([], 0)
instance c_spec_l6Defined {sys : ((List Int) × (List ((List Int) × (List Int))))} : HasC (F_spec_l6Defined sys) fun rr => PFun Tryz.prog 63 [D_impl_System sys] ((slD 1 iD) rr) := ⟨@fun rr h => by
  delta F_spec_l6Defined at h
  refine fn63.pureL (vcm_sound ?_)
  delta mc63
  refine stp ?_
  refine m_lW h [3, 4, 6, 7, 8, 9, 10, 11, 12, 13, 14, 15, 16, 17, 18, 19, 20, 21, 22] (fun pp => [(3, .d (slD 1 iD pp.1)), (4, .d (iD pp.2))]) (fun pp => [(1, .obj 33 [.d (slD 1 iD sys.1), .d (slD 2 D_impl_Rule sys.2)]), (5, .tok 2 1 0)]) ?_
  rintro ⟨out, i⟩ t1 h hb1
  unfold F_spec_l6Defined_l1 at h
  try dsimp only at h
  refine vcm_sound (stp ?_)
  exact aut⟩
def mc34 : MCode :=
 (.seq (.reg (sq 2 [bo 2 33 0] ++ sq 4 [.mv (.const (.slice none 0 0)), mb false])) (.seq (.reg (sq 13 [.bsl 13 22 1 []] ++ sq 6 [mv 13])) (.seq (.reg (sq 15 [fa 0 2, la 1 15, mv 1, cf 62 [16, 17]] ++ sq 14 [mv 18] ++ sq 19 [ex 14 0, ex 14 1] ++ sq 7 [mv 19, mv 20])) (.seq (.seq (.reg (sq 21 [la 2 2, cf 44 [21], nt 22, mv 23] ++ sg 24 false 25 [mv 8, nt 25] ++ sq 27 [po 24 26])) (.cond (t0 27) (.seq (.reg (sq 28 [mv 6] ++ sq 4 [mv 28, mb false])) .ret) .skip)) (.seq (.reg (sq 29 [la 2 2, cf 63 [29]] ++ sq 9 [mv 30])) (.seq (.seq (.reg (sq 10 [mi 0])) (.block 0 (.loop (.seq (.seq (.reg (sq 31 [mv 10, mv 7, ln 32, bn .lss 31 33])) (.cond (t0 34) .skip (.exit 0))) (.seq (.block 1 (.seq (.reg (sq 37 [mv 9, mv 7, mv 10, ix 1 38 39, ld 40, .ixa 1 (t0 41) (i0 0), ld 42, cf 64 [37, 43]] ++ sq 11 [mv 44])) (.seq (.seq (.reg (sq 12 [mi 1])) (.block 2 (.loop (.seq (.seq (.reg (sq 45 [mv 12, mv 7, mv 10, ix 1 46 47, ld 48, ln 49, bn .lss 45 50])) (.cond (t0 51) .skip (.exit 2))) (.seq (.block 3 (.reg (sq 54 [mv 11, mv 54] ++ sg 55 true 56 [mv 9, mv 7, mv 10, ix 1 57 58, ld 59, mv 12, ix 1 60 61, ld 62, cf 64 [56, 63], nt 64] ++ sq 66 [pa 55 65] ++ sq 11 [mv 66]))) (.reg (sq 52 [mv 12, bi .add 52 1] ++ sq 12 [mv 53]))))))) (.seq (.reg (sq 67 [mv 11])) (.cond (t0 67) (.reg (sq 68 [mv 6, mv 7, mv 10, ix 1 69 70, ld 71, .bsl 73 22 1 [(t0 72)], ap 74 22 1 24 68 73] ++ sq 6 [mv 74])) .skip))))) (.reg (sq 35 [mv 10, bi .add 35 1] ++ sq 10 [mv 36]))))))) (.seq (.reg (sq 75 [mv 6] ++ sq 4 [mv 75, mb true])) .ret)))))))
theorem fn34 : MFn Tryz.prog 34 mc34 76 [.tmp 4, .tmp 5] := ⟨_, Tryz.func34, by kernel_rfl, Tryz.ntmps34, by kernel_rfl⟩
noncomputable def F_spec_BasicsOf_l2 (r : ((List (List Int)) × Bool)) (r_2 : (List Int)) (out : (List (List Int))) (i : Int) : (Bool × Int) → Option ((Bool × Int) ⊕ (((List (List Int)) × Int) ⊕ ((List (List Int)) × Bool)))
 | (is, k) =>
  if 0 ≤ i ∧ i < (r.1.length : Int) then
   if (decide (k < ((r.1.getD i.toNat default).length : Int))) = true then
    if is = true then
     if 0 ≤ i ∧ i < (r.1.length : Int) then
      if 0 ≤ k ∧ k < ((r.1.getD i.toNat default).length : Int) then
       (F_spec_l1Has r_2 ((r.1.getD i.toNat default).getD k.toNat default)).bind fun r_4 =>
       some (.inl ((!r_4), (IntKind.i64.wrap (k + 1))))
      else none
     else none
    else
     some (.inl (false, (IntKind.i64.wrap (k + 1))))
   else
    Option.map Sum.inr (
     if is = true then
      if 0 ≤ i ∧ i < (r.1.length : Int) then
       if (out.length + 1) * 24 ≤ 140737488355328 then
        some (.inl ((out ++ [(r.1.getD i.toNat default)]), (IntKind.i64.wrap (i + 1))))
       else none
      else none
     else
      some (.inl (out, (IntKind.i64.wrap (i + 1)))))
  else none
noncomputable def F_spec_BasicsOf_l1 (r : ((List (List Int)) × Bool)) (r_2 : (List Int)) : ((List (List Int)) × Int) → Option (((List (List Int)) × Int) ⊕ ((List (List Int)) × Bool))
 | (out, i) =>
  if (decide (i < (r.1.length : Int))) = true then
   if 0 ≤ i ∧ i < (r.1.length : Int) then
    if 0 ≤ 0 ∧ 0 < ((r.1.getD i.toNat default).length : Int) then
     (F_spec_l1Has r_2 ((r.1.getD i.toNat default).getD 0 default)).bind fun r_3 =>
     loopC (F_spec_BasicsOf_l2 r r_2 out i) (r_3, 1)
    else none
   else none
  else
   Option.map Sum.inr (
    some (out, true))
noncomputable def F_spec_BasicsOf (sys : ((List Int) × (List ((List Int) × (List Int))))) (n : Int) : Option ((List (List Int)) × Bool) :=
 (F_spec_GroundsOf sys.1 n).bind fun r =>
 (F_spec_SystemOk sys).bind fun r_1 =>
 if r_1 = true then
  if r.2 = true then
   (F_spec_l6Defined sys).bind fun r_2 =>
   loopC (F_spec_BasicsOf_l1 r r_2) ([], 0)
  else
   some ([], false)
 else
  some ([], false)
instance c_spec_BasicsOf {sys : ((List Int) × (List ((List Int) × (List Int))))} {n : Int} : HasC (F_spec_BasicsOf sys n) fun rr => PFunN Tryz.prog 34 [D_impl_System sys, iD n] [(slD 1 (slD 1 iD)) rr.1, bD rr.2] := ⟨@fun rr h => by
  delta F_spec_BasicsOf at h
  refine fn34.pureLN (vcm_sound ?_)
  delta mc34
  refine stp ?_
  refine rCN h fun r hr h => ?_
  refine rC h fun r_1 hr_1 h => ?_
  refine iT h fun hc h => ?_
  refine iT h fun hc h => ?_
  refine rC h fun r_2 hr_2 h => ?_
  refine m_lW h [6, 10, 11, 12, 31, 32, 33, 34, 35, 36, 37, 38, 39, 40, 41, 42, 43, 44, 45, 46, 47, 48, 49, 50, 51, 52, 53, 54, 55, 56, 57, 58, 59, 60, 61, 62, 63, 64, 65, 66, 67, 68, 69, 70, 71, 72, 73, 74] (fun pp => [(6, .own 1 13 (List.map (slD 1 iD) pp.1)), (10, .d (iD pp.2))]) (fun pp => [(2, .obj 33 [.d (slD 1 iD sys.1), .d (slD 2 D_impl_Rule sys.2)]), (13, .tok 22 1 pp.1.length)]) ?_
  rintro ⟨out, i⟩ t1 h hb1
  unfold F_spec_BasicsOf_l1 at h
  try dsimp only at h
  refine vcm_sound (stp ?_)
  refine iT h fun hc h => ?_
  refine ndI h fun hp h => ?_
  refine ndI h fun hp h => ?_
  refine rC h fun r_3 hr_3 h => ?_
  refine m_lW h [11, 12, 45, 46, 47, 48, 49, 50, 51, 52, 53, 54, 55, 56, 57, 58, 59, 60, 61, 62, 63, 64, 65, 66] (fun pp => [(11, .d (bD pp.1)), (12, .d (iD pp.2))]) (fun pp => [(2, .obj 33 [.d (slD 1 iD sys.1), .d (slD 2 D_impl_Rule sys.2)]), (13, .tok 22 1 out.length)]) ?_
  rintro ⟨is, k⟩ t2 h hb2
  unfold F_spec_BasicsOf_l2 at h
  try dsimp only at h
  refine vcm_sound (stp ?_)
  refine ndI h fun hp h => ?_
  refine iF h fun hc h => ?_
  replace h := inr_some h hb2
  refine iT h fun hc h => ?_
  refine ndI h fun hp h => ?_
  refine ndI h fun hp h => ?_
  cases h
  refine ⟨_, rfl, ?_⟩
  refine (Weak.drop 73 (by omega)).trans ?_
  exact wk⟩
def mc123 : MCode :=
 (.seq (.reg (sq 2 [bo 2 33 0] ++ sq 4 [mb false])) (.seq (.reg (sq 5 [la 2 2, cf 44 [5], mv 6] ++ sg 7 true 8 [fa 0 2, la 1 8, mv 1, cf 46 [9, 10]] ++ sq 12 [pa 7 11] ++ sq 4 [mv 12])) .ret))
theorem fn123 : MFn Tryz.prog 123 mc123 13 [.tmp 4] := ⟨_, Tryz.func123, by kernel_rfl, Tryz.ntmps123, by kernel_rfl⟩
noncomputable def F_spec_l7Right (sys : ((List Int) × (List ((List Int) × (List Int))))) (t : (List Int)) : Option Bool :=
 (F_spec_SystemOk sys).bind fun r =>
 if r = true then
  (F_spec_TermOk sys.1 t).bind fun r_1 =>
  some r_1
 else
  some false
instance c_spec_l7Right {sys : ((List Int) × (List ((List Int) × (List Int))))} {t : (List Int)} : HasC (F_spec_l7Right sys t) fun rr => PFun Tryz.prog 123 [D_impl_System sys, (slD 1 iD) t] (bD rr) := ⟨@fun rr h => by
  delta F_spec_l7Right at h
  refine fn123.pureL (vcm_sound ?_)
  delta mc123
  refine stp ?_
  exact aut⟩
def mc100 : MCode :=
 (.seq (.reg (sq 3 [bo 3 33 0] ++ sq 6 [mb false])) (.seq (.reg (sq 7 [la 2 3, mv 1, cf 123 [7, 8], mv 9] ++ sg 10 true 11 [mv 2, .callf 35 [(t0 11), (i0 1), (i0 3)]] ++ sq 13 [pa 10 12] ++ sq 6 [mv 13])) .ret))
theorem fn100 : MFn Tryz.prog 100 mc100 14 [.tmp 6] := ⟨_, Tryz.func100, by kernel_rfl, Tryz.ntmps100, by kernel_rfl⟩
noncomputable def F_spec_l8Right (sys : ((List Int) × (List ((List Int) × (List Int))))) (t : (List Int)) (strategy : Int) : Option Bool :=
 (F_spec_l7Right sys t).bind fun r =>
 if r = true then
  (F_spec_l1In strategy 1 3).bind fun r_1 =>
  some r_1
 else
  some false
instance c_spec_l8Right {sys : ((List Int) × (List ((List Int) × (List Int))))} {t : (List Int)} {strategy : Int} : HasC (F_spec_l8Right sys t strategy) fun rr => PFun Tryz.prog 100 [D_impl_System sys, (slD 1 iD) t, iD strategy] (bD rr) := ⟨@fun rr h => by
  delta F_spec_l8Right at h
  refine fn100.pureL (vcm_sound ?_)
  delta mc100
  refine stp ?_
  exact aut⟩
def mc125 : MCode :=
 (.seq (.reg (sq 3 [bo 3 33 0] ++ sq 6 [mi 0])) (.seq (.reg (sq 11 [fa 0 3, la 1 11, mv 1, mv 2, cf 49 [12, 13, 14]] ++ sq 7 [mv 15])) (.seq (.seq (.reg (sq 8 [mi 0])) (.block 0 (.loop (.seq (.seq (.reg (sq 16 [mv 8, fa 1 3, ld 17, ln 18, bn .lss 16 19])) (.cond (t0 20) .skip (.exit 0))) (.seq (.block 1 (.seq (.draw (sq 24 [fa 0 3, la 1 24, fa 1 3, ld 26, mv 8, ix 2 27 28, fa 0 29, ld 30, mv 7, cf 81 [25, 31, 32]] ++ sq 23 [mv 33] ++ sq 34 [ex 23 0, ex 23 1] ++ sq 9 [.alloc 9 72 [.sl 0 (some true) []]] ++ s0 (sr 1 9 34) ++ sq 10 [mv 35]) [[], [0], [], [2], [], [3, 4], [5], [6], [], [1, 7, 8], [9], [10], [10], [], [13, 11, 9, 0, 1, 2, 3, 4, 5, 6, 7, 8, 9, 10, 11, 13], [12, 14, 0, 1, 2, 3, 4, 5, 6, 7, 8, 9, 10, 11, 12, 13, 14]]) (.seq (.reg (sq 36 [mv 10])) (.cond (t0 36) (.seq (.reg (sq 37 [mv 8] ++ sq 6 [mv 37])) .ret) .skip)))) (.reg (sq 21 [mv 8, bi .add 21 1] ++ sq 8 [mv 22]))))))) (.seq (.reg (sq 6 [mi (-1)])) .ret))))
theorem fn125 : MFn Tryz.prog 125 mc125 38 [.tmp 6] := ⟨_, Tryz.func125, by kernel_rfl, Tryz.ntmps125, by kernel_rfl⟩
noncomputable def F_spec_l8Redex_l1 (sys : ((List Int) × (List ((List Int) × (List Int))))) (r : (List Int)) : Int → Option (Int ⊕ Int)
 | rule =>
  if (decide (rule < (sys.2.length : Int))) = true then
   if 0 ≤ rule ∧ rule < (sys.2.length : Int) then
    (F_spec_l4Match sys.1 ((sys.2.getD rule.toNat default).1) r).bind fun r_1 =>
    if r_1.2 = true then
     Option.map Sum.inr (
      some rule)
    else
     some (.inl (IntKind.i64.wrap (rule + 1)))
   else none
  else
   Option.map Sum.inr (
    some (-1))
noncomputable def F_spec_l8Redex (sys : ((List Int) × (List ((List Int) × (List Int))))) (t : (List Int)) (at' : Int) : Option Int :=
 (F_spec_l1Sub sys.1 t at').bind fun r =>
 loopC (F_spec_l8Redex_l1 sys r) 0
instance c_spec_l8Redex {sys : ((List Int) × (List ((List Int) × (List Int))))} {t : (List Int)} {at' : Int} : HasC (F_spec_l8Redex sys t at') fun rr => PFun Tryz.prog 125 [D_impl_System sys, (slD 1 iD) t, iD at'] (iD rr) := ⟨@fun rr h => by
  delta F_spec_l8Redex at h
  refine fn125.pureL (vcm_sound ?_)
  delta mc125
  refine stp ?_
  refine rC h fun r hr h => ?_
  refine m_lW h [6, 8, 9, 10, 16, 17, 18, 19, 20, 21, 22, 23, 24, 25, 26, 27, 28, 29, 30, 31, 32, 33, 34, 35, 36, 37] (fun pp => [(8, .d (iD pp))]) (fun pp => [(3, .obj 33 [.d (slD 1 iD sys.1), .d (slD 2 D_impl_Rule sys.2)])]) ?_
  rintro rule t1 h hb1
  unfold F_spec_l8Redex_l1 at h
  try dsimp only at h
  refine vcm_sound (stp ?_)
  refine iT h fun hc h => ?_
  refine ndI h fun hp h => ?_
  refine dCN h fun r_1 hr_1 h => ?_
  refine drQ_of (by kernel_rfl) (stp ?_)
  refine iF h fun hc h => ?_
  cases h
  refine ⟨_, rfl, ?_⟩
  refine (Weak.drop 9 (by omega)).trans ?_
  exact wk⟩
def mc148 : MCode :=
 (.seq (.reg (sq 2 [bo 2 33 0] ++ sq 4 [.mv (.const (.slice none 0 0))])) (.seq (.reg (sq 7 [.bsl 7 2 1 []] ++ sq 5 [mv 7])) (.seq (.seq (.reg (sq 6 [mi 0])) (.block 0 (.loop (.seq (.seq (.reg (sq 8 [mv 6, mv 1, ln 9, bn .lss 8 10, mv 11] ++ sg 12 true 13 [la 2 2, mv 1, cf 123 [13, 14]] ++ sq 16 [pa 12 15])) (.cond (t0 16) .skip (.exit 0))) (.seq (.block 1 (.seq (.reg (sq 19 [la 2 2, mv 1, mv 6, cf 125 [19, 20, 21], bi .geq 22 0])) (.cond (t0 23) (.reg (sq 24 [mv 5, mv 6, .bsl 26 2 1 [(t0 25)], ap 27 2 1 8 24 26] ++ sq 5 [mv 27])) .skip))) (.reg (sq 17 [mv 6, bi .add 17 1] ++ sq 6 [mv 18]))))))) (.seq (.reg (sq 28 [mv 5] ++ sq 4 [mv 28])) .ret))))
theorem fn148 : MFn Tryz.prog 148 mc148 29 [.tmp 4] := ⟨_, Tryz.func148, by kernel_rfl, Tryz.ntmps148, by kernel_rfl⟩
noncomputable def F_spec_RedexesIn_l1 (sys : ((List Int) × (List ((List Int) × (List Int))))) (t : (List Int)) : ((List Int) × Int) → Option (((List Int) × Int) ⊕ (List Int))
 | (out, at') =>
  if (decide (at' < (t.length : Int))) = true then
   (F_spec_l7Right sys t).bind fun r =>
   if r = true then
    (F_spec_l8Redex sys t at').bind fun r_1 =>
    if (decide (0 ≤ r_1)) = true then
     if (out.length + 1) * 8 ≤ 140737488355328 then
      some (.inl ((out ++ [at']), (IntKind.i64.wrap (at' + 1))))
     else none
    else
     some (.inl (out, (IntKind.i64.wrap (at' + 1))))
   else
    Option.map Sum.inr (
     some out)
  else
   Option.map Sum.inr (
    some out)
noncomputable def F_spec_RedexesIn (sys : ((List Int) × (List ((List Int) × (List Int))))) (t : (List Int)) : Option (List Int) :=
 loopC (F_spec_RedexesIn_l1 sys t) ([], 0)
instance c_spec_RedexesIn {sys : ((List Int) × (List ((List Int) × (List Int))))} {t : (List Int)} : HasC (F_spec_RedexesIn sys t) fun rr => PFun Tryz.prog 148 [D_impl_System sys, (slD 1 iD) t] ((slD 1 iD) rr) := ⟨@fun rr h => by
  delta F_spec_RedexesIn at h
  refine fn148.pureL (vcm_sound ?_)
  delta mc148
  refine stp ?_
  refine m_lW h [5, 6, 8, 9, 10, 11, 12, 13, 14, 15, 16, 17, 18, 19, 20, 21, 22, 23, 24, 25, 26, 27] (fun pp => [(5, .own 1 7 (List.map iD pp.1)), (6, .d (iD pp.2))]) (fun pp => [(2, .obj 33 [.d (slD 1 iD sys.1), .d (slD 2 D_impl_Rule sys.2)]), (7, .tok 2 1 pp.1.length)]) ?_
  rintro ⟨out, at'⟩ t1 h hb1
  unfold F_spec_RedexesIn_l1 at h
  try dsimp only at h
  refine vcm_sound (stp ?_)
  refine iT h fun hc h => ?_
  refine rC h fun r hr h => ?_
  refine iT h fun hc h => ?_
  refine rC h fun r_1 hr_1 h => ?_
  refine iT h fun hc h => ?_
  refine ndI h fun hp h => ?_
  cases h
  refine ⟨_, rfl, ?_⟩
  refine (Weak.drop 26 (by omega)).trans ?_
  exact wk⟩
def mc147 : MCode :=
 (.seq (.reg (sq 2 [bo 2 33 0] ++ sq 4 [.mv (.const (.slice none 0 0))])) (.seq (.reg (sq 9 [.bsl 9 2 1 []] ++ sq 5 [mv 9])) (.seq (.reg (sq 10 [la 2 2, mv 1, cf 148 [10, 11]] ++ sq 6 [mv 12])) (.seq (.seq (.reg (sq 7 [mi 0])) (.block 0 (.loop (.seq (.seq (.reg (sq 13 [mv 7, mv 6, ln 14, bn .lss 13 15])) (.cond (t0 16) .skip (.exit 0))) (.seq (.block 1 (.seq (.draw (sq 19 [fa 0 2, la 1 19, mv 1, mv 6, mv 7, ix 1 22 23, ld 24, cf 74 [20, 21, 25]] ++ sq 8 [mv 26]) [[], [0], [], [], [], [3, 4], [5], [1, 2, 6], [7, 7, 0, 1, 2, 3, 4, 5, 6, 7]]) (.seq (.reg (sq 27 [mv 7, bi .add 27 1, mv 6, ln 29, bn .eql 28 30, mv 31] ++ sg 32 false 33 [mv 6, mv 7, bi .add 34 1, ix 1 33 35, ld 36, mv 8, bn .geq 37 38] ++ sq 40 [po 32 39])) (.cond (t0 40) (.reg (sq 41 [mv 5, mv 6, mv 7, ix 1 42 43, ld 44, .bsl 46 2 1 [(t0 45)], ap 47 2 1 8 41 46] ++ sq 5 [mv 47])) .skip)))) (.reg (sq 17 [mv 7, bi .add 17 1] ++ sq 7 [mv 18]))))))) (.seq (.reg (sq 48 [mv 5] ++ sq 4 [mv 48])) .ret)))))
theorem fn147 : MFn Tryz.prog 147 mc147 49 [.tmp 4] := ⟨_, Tryz.func147, by kernel_rfl, Tryz.ntmps147, by kernel_rfl⟩
noncomputable def F_spec_InmostIn_l1 (sys : ((List Int) × (List ((List Int) × (List Int))))) (t : (List Int)) (r : (List Int)) : ((List Int) × Int) → Option (((List Int) × Int) ⊕ (List Int))
 | (out, i) =>
  if (decide (i < (r.length : Int))) = true then
   if 0 ≤ i ∧ i < (r.length : Int) then
    (F_spec_l1End sys.1 t (r.getD i.toNat default)).bind fun r_1 =>
    if ((IntKind.i64.wrap (i + 1)) == (r.length : Int)) = true then
     if 0 ≤ i ∧ i < (r.length : Int) then
      if (out.length + 1) * 8 ≤ 140737488355328 then
       some (.inl ((out ++ [(r.getD i.toNat default)]), (IntKind.i64.wrap (i + 1))))
      else none
     else none
    else
     if 0 ≤ (IntKind.i64.wrap (i + 1)) ∧ (IntKind.i64.wrap (i + 1)) < (r.length : Int) then
      if (decide (r_1 ≤ (r.getD (IntKind.i64.wrap (i + 1)).toNat default))) = true then
       if 0 ≤ i ∧ i < (r.length : Int) then
        if (out.length + 1) * 8 ≤ 140737488355328 then
         some (.inl ((out ++ [(r.getD i.toNat default)]), (IntKind.i64.wrap (i + 1))))
        else none
       else none
      else
       some (.inl (out, (IntKind.i64.wrap (i + 1))))
     else none
   else none
  else
   Option.map Sum.inr (
    some out)
noncomputable def F_spec_InmostIn (sys : ((List Int) × (List ((List Int) × (List Int))))) (t : (List Int)) : Option (List Int) :=
 (F_spec_RedexesIn sys t).bind fun r =>
 loopC (F_spec_InmostIn_l1 sys t r) ([], 0)
instance c_spec_InmostIn {sys : ((List Int) × (List ((List Int) × (List Int))))} {t : (List Int)} : HasC (F_spec_InmostIn sys t) fun rr => PFun Tryz.prog 147 [D_impl_System sys, (slD 1 iD) t] ((slD 1 iD) rr) := ⟨@fun rr h => by
  delta F_spec_InmostIn at h
  refine fn147.pureL (vcm_sound ?_)
  delta mc147
  refine stp ?_
  refine rC h fun r hr h => ?_
  refine m_lW h [5, 7, 8, 13, 14, 15, 16, 17, 18, 19, 20, 21, 22, 23, 24, 25, 26, 27, 28, 29, 30, 31, 32, 33, 34, 35, 36, 37, 38, 39, 40, 41, 42, 43, 44, 45, 46, 47] (fun pp => [(5, .own 1 9 (List.map iD pp.1)), (7, .d (iD pp.2))]) (fun pp => [(2, .obj 33 [.d (slD 1 iD sys.1), .d (slD 2 D_impl_Rule sys.2)]), (9, .tok 2 1 pp.1.length)]) ?_
  rintro ⟨out, i⟩ t1 h hb1
  unfold F_spec_InmostIn_l1 at h
  try dsimp only at h
  refine vcm_sound (stp ?_)
  refine iT h fun hc h => ?_
  refine ndI h fun hp h => ?_
  refine dC h fun r_1 hr_1 h => ?_
  refine drQ_of (by kernel_rfl) (stp ?_)
  refine it h (fun hc h => ?_) fun hc h => ?_
  · refine ndI h fun hp h => ?_
    refine ndI h fun hp h => ?_
    cases h
    refine ⟨_, rfl, ?_⟩
    refine (Weak.drop 46 (by omega)).trans ?_
    exact wk
  refine ndI h fun hp h => ?_
  refine iT h fun hc h => ?_
  refine ndI h fun hp h => ?_
  refine ndI h fun hp h => ?_
  cases h
  refine ⟨_, rfl, ?_⟩
  refine (Weak.drop 46 (by omega)).trans ?_
  exact wk⟩
def mc124 : MCode :=
 (.seq (.reg (sq 3 [bo 3 33 0] ++ sq 6 [.mv (.const (.slice none 0 0))])) (.seq (.seq (.reg (sq 8 [mv 2])) (.block 0 (.seq (.reg (sq 10 [bi .eql 8 1] ++ sq 9 [mv 10])) (.cond (t0 9) (.seq (.reg (sq 11 [la 2 3, mv 1, cf 147 [11, 12]] ++ sq 6 [mv 13])) .ret) (.seq (.reg (sq 15 [bi .eql 8 2] ++ sq 14 [mv 15])) (.cond (t0 14) (.seq (.reg (sq 16 [la 2 3, mv 1, cf 148 [16, 17]] ++ sq 6 [mv 18])) .ret) .skip)))))) (.seq (.reg (sq 19 [la 2 3, mv 1, cf 148 [19, 20]] ++ sq 7 [mv 21])) (.seq (.seq (.reg (sq 22 [mv 7, ln 22, bi .gtr 23 0])) (.cond (t0 24) (.reg (sq 25 [mv 7, mv 7, ln 26, bi .sub 27 1, .slc (t0 25) 1 (some (t0 28)) none none] ++ sq 7 [mv 29])) .skip)) (.seq (.reg (sq 30 [mv 7] ++ sq 6 [mv 30])) .ret)))))
theorem fn124 : MFn Tryz.prog 124 mc124 31 [.tmp 6] := ⟨_, Tryz.func124, by kernel_rfl, Tryz.ntmps124, by kernel_rfl⟩
noncomputable def F_spec_l8Places (sys : ((List Int) × (List ((List Int) × (List Int))))) (t : (List Int)) (strategy : Int) : Option (List Int) :=
 if (strategy == 1) = true then
  (F_spec_InmostIn sys t).bind fun r =>
  some r
 else
  if (strategy == 2) = true then
   (F_spec_RedexesIn sys t).bind fun r_1 =>
   some r_1
  else
   (F_spec_RedexesIn sys t).bind fun r_2 =>
   if (decide (0 < (r_2.length : Int))) = true then
    if 0 ≤ (IntKind.i64.wrap ((r_2.length : Int) - 1)) ∧ (IntKind.i64.wrap ((r_2.length : Int) - 1)) ≤ (r_2.length : Int) then
     some (r_2.drop (IntKind.i64.wrap ((r_2.length : Int) - 1)).toNat)
    else none
   else
    some r_2
instance c_spec_l8Places {sys : ((List Int) × (List ((List Int) × (List Int))))} {t : (List Int)} {strategy : Int} : HasC (F_spec_l8Places sys t strategy) fun rr => PFun Tryz.prog 124 [D_impl_System sys, (slD 1 iD) t, iD strategy] ((slD 1 iD) rr) := ⟨@fun rr h => by
  delta F_spec_l8Places at h
  refine fn124.pureL (vcm_sound ?_)
  delta mc124
  refine stp ?_
  exact aut⟩
def mc101 : MCode :=
 (.seq (.reg (sq 3 [bo 3 33 0] ++ sq 6 [mi 0, mi 0, mb false])) (.seq (.seq (.reg (sq 10 [la 2 3, mv 1, mv 2, cf 100 [10, 11, 12], nt 13])) (.cond (t0 14) (.seq (.reg (sq 6 [mi 0, mi 0, mb false])) .ret) .skip)) (.seq (.reg (sq 15 [la 2 3, mv 1, mv 2, cf 124 [15, 16, 17]] ++ sq 9 [mv 18])) (.seq (.seq (.reg (sq 19 [mv 9, ln 19, bi .eql 20 0])) (.cond (t0 21) (.seq (.reg (sq 6 [mi 0, mi 0, mb false])) .ret) .skip)) (.seq (.draw (sq 22 [mv 9, .ixa 1 (t0 22) (i0 0), ld 23, la 2 3, mv 1, mv 9, .ixa 1 (t0 27) (i0 0), ld 28, cf 125 [25, 26, 29]] ++ sq 6 [mv 24, mv 30, mb true]) [[], [0], [1], [], [], [], [5], [6], [3, 4, 7], [2, 8, 0, 1, 2], [8, 9, 0, 1, 2, 3, 4, 5, 6, 7, 8, 9], [10, 0, 1, 2, 3, 4, 5, 6, 7, 8, 9, 10]]) .ret)))))
theorem fn101 : MFn Tryz.prog 101 mc101 31 [.tmp 6, .tmp 7, .tmp 8] := ⟨_, Tryz.func101, by kernel_rfl, Tryz.ntmps101, by kernel_rfl⟩
noncomputable def F_spec_PickBy (sys : ((List Int) × (List ((List Int) × (List Int))))) (t : (List Int)) (strategy : Int) : Option (Int × Int × Bool) :=
 (F_spec_l8Right sys t strategy).bind fun r =>
 if r = true then
  (F_spec_l8Places sys t strategy).bind fun r_1 =>
  if ((r_1.length : Int) == 0) = true then
   some (0, 0, false)
  else
   if 0 ≤ 0 ∧ 0 < (r_1.length : Int) then
    if 0 ≤ 0 ∧ 0 < (r_1.length : Int) then
     (F_spec_l8Redex sys t (r_1.getD 0 default)).bind fun r_2 =>
     some ((r_1.getD 0 default), r_2, true)
    else none
   else none
 else
  some (0, 0, false)
instance c_spec_PickBy {sys : ((List Int) × (List ((List Int) × (List Int))))} {t : (List Int)} {strategy : Int} : HasC (F_spec_PickBy sys t strategy) fun rr => PFunN Tryz.prog 101 [D_impl_System sys, (slD 1 iD) t, iD strategy] [iD rr.1, iD rr.2.1, bD rr.2.2] := ⟨@fun rr h => by
  delta F_spec_PickBy at h
  refine fn101.pureLN (vcm_sound ?_)
  delta mc101
  refine stp ?_
  exact aut⟩
def mc127 : MCode :=
 (.seq (.reg (sq 4 [bo 4 30 0] ++ sq 8 [.mv (.const (.slice none 0 0)), mb false])) (.seq (.reg (sq 11 [mv 1, mv 2, .slc (t0 11) 1 none (some (t0 12)) none, cf 78 [13], mv 3, ap 16 2 1 8 14 15] ++ sq 10 [mv 16])) (.seq (.reg (sq 17 [mv 10, mv 1, la 1 4, mv 1, mv 2, cf 74 [19, 20, 21], .slc (t0 18) 1 (some (t0 22)) none none, ap 24 2 1 8 17 23] ++ sq 10 [mv 24])) (.seq (.seq (.reg (sq 25 [mv 10, ln 25, bi .gtr 26 60])) (.cond (t0 27) (.seq (.reg (sq 28 [.bsl 28 2 1 []] ++ sq 8 [mv 28, mb false])) .ret) .skip)) (.seq (.reg (sq 29 [mv 10] ++ sq 8 [mv 29, mb true])) .ret)))))
theorem fn127 : MFn Tryz.prog 127 mc127 30 [.tmp 8, .tmp 9] := ⟨_, Tryz.func127, by kernel_rfl, Tryz.ntmps127, by kernel_rfl⟩
noncomputable def F_spec_l3Put (sig : (List Int)) (t : (List Int)) (at' : Int) (u : (List Int)) : Option ((List Int) × Bool) :=
 if 0 ≤ at' ∧ at' ≤ (t.length : Int) then
  (F_spec_l1Copy (t.take at'.toNat)).bind fun r =>
  if (r.length + u.length) * 8 ≤ 140737488355328 then
   (F_spec_l1End sig t at').bind fun r_1 =>
   if 0 ≤ r_1 ∧ r_1 ≤ (t.length : Int) then
    if ((r ++ u).length + (t.drop r_1.toNat).length) * 8 ≤ 140737488355328 then
     if (decide (60 < (((r ++ u) ++ (t.drop r_1.toNat)).length : Int))) = true then
      some ([], false)
     else
      some (((r ++ u) ++ (t.drop r_1.toNat)), true)
    else none
   else none
  else none
 else none
instance c_spec_l3Put {sig : (List Int)} {t : (List Int)} {at' : Int} {u : (List Int)} : HasC (F_spec_l3Put sig t at' u) fun rr => PFunN Tryz.prog 127 [D_impl_Sig sig, (slD 1 iD) t, iD at', (slD 1 iD) u] [(slD 1 iD) rr.1, bD rr.2] := ⟨@fun rr h => by
  delta F_spec_l3Put at h
  refine fn127.pureLN (vcm_sound ?_)
  delta mc127
  refine stp ?_
  refine ndI h fun hp h => ?_
  refine rCo [] [(3, 14)] h fun r hr h => ?_
  exact aut⟩
def mc102 : MCode :=
 (.seq (.reg (sq 4 [bo 4 33 0] ++ sq 8 [.mv (.const (.slice none 0 0)), mb false])) (.seq (.reg (sq 15 [fa 1 4, ld 15, mv 3, ix 2 16 17, la 2 18] ++ sq 10 [.alloc 10 70 [.sl 0 (some true) [], .sl 0 (some true) []]] ++ s0 (sr 2 10 19))) (.seq (.draw (sq 21 [fa 0 4, la 1 21, fa 0 10, ld 23, fa 0 4, la 1 25, mv 1, mv 2, cf 49 [26, 27, 28], cf 81 [22, 24, 29]] ++ sq 20 [mv 30] ++ sq 31 [ex 20 0, ex 20 1] ++ sq 11 [.alloc 11 72 [.sl 0 (some true) []]] ++ s0 (sr 1 11 31) ++ sq 12 [mv 32]) [[], [0], [], [2], [], [4], [], [], [5, 6, 7], [1, 3, 8, 8], [9], [10], [10], [], [13, 11, 9, 0, 1, 2, 3, 4, 5, 6, 7, 8, 9, 10, 11, 13], [12, 14, 0, 1, 2, 3, 4, 5, 6, 7, 8, 9, 10, 11, 12, 13, 14]]) (.seq (.seq (.reg (sq 33 [mv 12, nt 33])) (.cond (t0 34) (.seq (.reg (sq 35 [.bsl 35 2 1 []] ++ sq 8 [mv 35, mb false])) .ret) .skip)) (.seq (.reg (sq 37 [la 1 11, fa 1 10, ld 38, cf 126 [37, 39]] ++ sq 36 [mv 40] ++ sq 41 [ex 36 0, ex 36 1] ++ sq 13 [mv 41, mv 42])) (.seq (.seq (.reg (sq 43 [mv 14, nt 43])) (.cond (t0 44) (.seq (.reg (sq 45 [.bsl 45 2 1 []] ++ sq 8 [mv 45, mb false])) .ret) .skip)) (.seq (.reg (sq 46 [fa 0 4, la 1 46, mv 1, mv 2, mv 13, cf 127 [47, 48, 49, 50], ex 51 0, ex 51 1] ++ sq 8 [mv 52, mv 53])) .ret)))))))
theorem fn102 : MFn Tryz.prog 102 mc102 54 [.tmp 8, .tmp 9] := ⟨_, Tryz.func102, by kernel_rfl, Tryz.ntmps102, by kernel_rfl⟩
noncomputable def F_spec_l7Step (sys : ((List Int) × (List ((List Int) × (List Int))))) (t : (List Int)) (at' : Int) (rule : Int) : Option ((List Int) × Bool) :=
 if 0 ≤ rule ∧ rule < (sys.2.length : Int) then
  (F_spec_l1Sub sys.1 t at').bind fun r =>
  (F_spec_l4Match sys.1 ((sys.2.getD rule.toNat default).1) r).bind fun r_1 =>
  if r_1.2 = true then
   (F_spec_l2Filled r_1.1 ((sys.2.getD rule.toNat default).2)).bind fun r_2 =>
   if r_2.2 = true then
    (F_spec_l3Put sys.1 t at' r_2.1).bind fun r_3 =>
    some r_3
   else
    some ([], false)
  else
   some ([], false)
 else none
instance c_spec_l7Step {sys : ((List Int) × (List ((List Int) × (List Int))))} {t : (List Int)} {at' : Int} {rule : Int} : HasC (F_spec_l7Step sys t at' rule) fun rr => PFunN Tryz.prog 102 [D_impl_System sys, (slD 1 iD) t, iD at', iD rule] [(slD 1 iD) rr.1, bD rr.2] := ⟨@fun rr h => by
  delta F_spec_l7Step at h
  refine fn102.pureLN (vcm_sound ?_)
  delta mc102
  refine stp ?_
  exact aut⟩
def mc128 : MCode :=
 (.seq (.reg (sq 2 [bo 2 33 0] ++ sq 4 [mi 0])) (.seq (.reg (sq 5 [mi 0])) (.seq (.seq (.reg (sq 6 [mi 0])) (.block 0 (.loop (.seq (.seq (.reg (sq 10 [mv 6, mv 1, ln 11, bn .lss 10 12])) (.cond (t0 13) .skip (.exit 0))) (.seq (.block 1 (.seq (.reg (sq 7 [mi 0])) (.block 2 (.loop (.seq (.seq (.reg (sq 16 [mv 7, fa 1 2, ld 17, ln 18, bn .lss 16 19])) (.cond (t0 20) .skip (.exit 2))) (.seq (.block 3 (.seq (.draw (sq 24 [fa 0 2, la 1 24, fa 1 2, ld 26, mv 7, ix 2 27 28, fa 0 29, ld 30, fa 0 2, la 1 32, mv 1, mv 6, cf 49 [33, 34, 35], cf 81 [25, 31, 36]] ++ sq 23 [mv 37] ++ sq 38 [ex 23 0, ex 23 1] ++ sq 8 [.alloc 8 72 [.sl 0 (some true) []]] ++ s0 (sr 1 8 38) ++ sq 9 [mv 39]) [[], [0], [], [2], [], [3, 4], [5], [6], [], [8], [], [], [9, 10, 11], [1, 7, 12, 12], [13], [14], [14], [], [17, 15, 13, 0, 1, 2, 3, 4, 5, 6, 7, 8, 9, 10, 11, 12, 13, 14, 15, 17], [16, 18, 0, 1, 2, 3, 4, 5, 6, 7, 8, 9, 10, 11, 12, 13, 14, 15, 16, 17, 18]]) (.seq (.reg (sq 40 [mv 9])) (.cond (t0 40) (.reg (sq 41 [mv 5, bi .add 41 1] ++ sq 5 [mv 42])) .skip)))) (.reg (sq 21 [mv 7, bi .add 21 1] ++ sq 7 [mv 22])))))))) (.reg (sq 14 [mv 6, bi .add 14 1] ++ sq 6 [mv 15]))))))) (.seq (.reg (sq 43 [mv 5] ++ sq 4 [mv 43])) .ret))))
theorem fn128 : MFn Tryz.prog 128 mc128 44 [.tmp 4] := ⟨_, Tryz.func128, by kernel_rfl, Tryz.ntmps128, by kernel_rfl⟩
noncomputable def F_spec_l7Redexes_l2 (sys : ((List Int) × (List ((List Int) × (List Int))))) (t : (List Int)) (at' : Int) : (Int × Int) → Option ((Int × Int) ⊕ ((Int × Int) ⊕ Int))
 | (many_1, rule) =>
  if (decide (rule < (sys.2.length : Int))) = true then
   if 0 ≤ rule ∧ rule < (sys.2.length : Int) then
    (F_spec_l1Sub sys.1 t at').bind fun r =>
    (F_spec_l4Match sys.1 ((sys.2.getD rule.toNat default).1) r).bind fun r_1 =>
    if r_1.2 = true then
     some (.inl ((IntKind.i64.wrap (many_1 + 1)), (IntKind.i64.wrap (rule + 1))))
    else
     some (.inl (many_1, (IntKind.i64.wrap (rule + 1))))
   else none
  else
   Option.map Sum.inr (
    some (.inl (many_1, (IntKind.i64.wrap (at' + 1)))))
noncomputable def F_spec_l7Redexes_l1 (sys : ((List Int) × (List ((List Int) × (List Int))))) (t : (List Int)) : (Int × Int) → Option ((Int × Int) ⊕ Int)
 | (many, at') =>
  if (decide (at' < (t.length : Int))) = true then
   loopC (F_spec_l7Redexes_l2 sys t at') (many, 0)
  else
   Option.map Sum.inr (
    some many)
noncomputable def F_spec_l7Redexes (sys : ((List Int) × (List ((List Int) × (List Int))))) (t : (List Int)) : Option Int :=
 loopC (F_spec_l7Redexes_l1 sys t) (0, 0)
instance c_spec_l7Redexes {sys : ((List Int) × (List ((List Int) × (List Int))))} {t : (List Int)} : HasC (F_spec_l7Redexes sys t) fun rr => PFun Tryz.prog 128 [D_impl_System sys, (slD 1 iD) t] (iD rr) := ⟨@fun rr h => by
  delta F_spec_l7Redexes at h
  refine fn128.pureL (vcm_sound ?_)
  delta mc128
  refine stp ?_
  refine m_lW h [5, 6, 7, 8, 9, 10, 11, 12, 13, 14, 15, 16, 17, 18, 19, 20, 21, 22, 23, 24, 25, 26, 27, 28, 29, 30, 31, 32, 33, 34, 35, 36, 37, 38, 39, 40, 41, 42] (fun pp => [(5, .d (iD pp.1)), (6, .d (iD pp.2))]) (fun pp => [(2, .obj 33 [.d (slD 1 iD sys.1), .d (slD 2 D_impl_Rule sys.2)])]) ?_
  rintro ⟨many, at'⟩ t1 h hb1
  unfold F_spec_l7Redexes_l1 at h
  try dsimp only at h
  refine vcm_sound (stp ?_)
  refine iT h fun hc h => ?_
  refine m_lW h [5, 7, 8, 9, 16, 17, 18, 19, 20, 21, 22, 23, 24, 25, 26, 27, 28, 29, 30, 31, 32, 33, 34, 35, 36, 37, 38, 39, 40, 41, 42] (fun pp => [(5, .d (iD pp.1)), (7, .d (iD pp.2))]) (fun pp => [(2, .obj 33 [.d (slD 1 iD sys.1), .d (slD 2 D_impl_Rule sys.2)])]) ?_
  rintro ⟨many_1, rule⟩ t2 h hb2
  unfold F_spec_l7Redexes_l2 at h
  try dsimp only at h
  refine vcm_sound (stp ?_)
  refine iT h fun hc h => ?_
  refine ndI h fun hp h => ?_
  refine dC h fun r hr h => ?_
  refine dCN h fun r_1 hr_1 h => ?_
  refine drQ_of (by kernel_rfl) (stp ?_)
  refine it h (fun hc h => ?_) fun hc h => ?_
  · cases h
    refine ⟨_, rfl, ?_⟩
    refine (Weak.drop 8 (by omega)).trans ?_
    exact wk
  cases h
  refine ⟨_, rfl, ?_⟩
  refine (Weak.drop 8 (by omega)).trans ?_
  exact wk⟩
def mc103 : MCode :=
 (.seq (.reg (sq 2 [bo 2 33 0] ++ sq 4 [mb false])) (.seq (.reg (sq 5 [la 2 2, mv 1, cf 123 [5, 6], mv 7] ++ sg 8 true 9 [la 2 2, mv 1, cf 128 [9, 10], bi .eql 11 0] ++ sq 13 [pa 8 12] ++ sq 4 [mv 13])) .ret))
theorem fn103 : MFn Tryz.prog 103 mc103 14 [.tmp 4] := ⟨_, Tryz.func103, by kernel_rfl, Tryz.ntmps103, by kernel_rfl⟩
noncomputable def F_spec_NormalIn (sys : ((List Int) × (List ((List Int) × (List Int))))) (t : (List Int)) : Option Bool :=
 (F_spec_l7Right sys t).bind fun r =>
 if r = true then
  (F_spec_l7Redexes sys t).bind fun r_1 =>
  some (r_1 == 0)
 else
  some false
instance c_spec_NormalIn {sys : ((List Int) × (List ((List Int) × (List Int))))} {t : (List Int)} : HasC (F_spec_NormalIn sys t) fun rr => PFun Tryz.prog 103 [D_impl_System sys, (slD 1 iD) t] (bD rr) := ⟨@fun rr h => by
  delta F_spec_NormalIn at h
  refine fn103.pureL (vcm_sound ?_)
  delta mc103
  refine stp ?_
  exact aut⟩
def mc65 : MCode :=
 (.seq (.reg (sq 4 [bo 4 33 0] ++ sq 8 [.alloc 8 84 [.sl 0 (some true) [], .sl 0 (some true) []], mb false])) (.seq (.seq (.reg (sq 17 [la 2 4, mv 1, mv 2, cf 100 [17, 18, 19], nt 20, mv 21] ++ sg 22 false 23 [mv 3, .callf 35 [(t0 23), (i0 0), (i0 60)], nt 24] ++ sq 26 [po 22 25])) (.cond (t0 26) (.seq (.reg (sq 27 [.build [.sl 0 (some true) [], .sl 0 (some true) []] []] ++ s0 (sr 2 8 27) ++ sq 9 [mb false])) .ret) .skip)) (.seq (.reg (sq 28 [mv 1, cf 78 [28], .build [.sl 0 (some true) [], .sl 0 (some true) []] [(0, 1, (t0 29))]] ++ sq 10 [.alloc 10 84 [.sl 0 (some true) [], .sl 0 (some true) []]] ++ s0 (sr 2 10 30))) (.seq (.reg (sq 31 [mv 1, cf 78 [31]] ++ sq 11 [mv 32])) (.seq (.block 0 (.loop (.seq (.seq (.reg (sq 33 [fa 1 10, ld 33, ln 34, mv 3, bn .lss 35 36])) (.cond (t0 37) .skip (.exit 0))) (.block 1 (.seq (.reg (sq 39 [la 2 4, mv 11, mv 2, cf 101 [39, 40, 41]] ++ sq 38 [mv 42] ++ sq 43 [ex 38 0, ex 38 1, ex 38 2] ++ sq 12 [mv 43, mv 44, mv 45])) (.seq (.seq (.reg (sq 46 [mv 14, nt 46])) (.cond (t0 47) (.exit 0) .skip)) (.seq (.reg (sq 49 [la 2 4, mv 11, mv 12, mv 13, cf 102 [49, 50, 51, 52]] ++ sq 48 [mv 53] ++ sq 54 [ex 48 0, ex 48 1] ++ sq 15 [mv 54, mv 55])) (.seq (.seq (.reg (sq 56 [mv 16, nt 56])) (.cond (t0 57) (.exit 0) .skip)) (.seq (.reg (sq 58 [fa 1 10, ld 58, mv 12, mv 13, mv 15, .build [.lit (.int .i64 0), .lit (.int .i64 0), .sl 0 (some true) []] [(0, 1, (t0 60)), (1, 1, (t0 61)), (2, 1, (t0 62))], .bsl 64 118 3 [(t0 63)], ap 65 118 3 40 59 64, fa 1 10] ++ s0 (sr 1 66 65))) (.reg (sq 67 [mv 15, cf 78 [67]] ++ sq 11 [mv 68]))))))))))) (.seq (.draw (sq 69 [la 2 10, la 2 4, mv 11, cf 103 [70, 71]] ++ s0 (sr 2 8 69) ++ sq 9 [mv 72]) [[], [], [], [1, 2], [0, 3, 0], [3, 4, 0, 1, 2, 3, 4]]) .ret))))))
theorem fn65 : MFn Tryz.prog 65 mc65 73 [.cell 8 2 true, .tmp 9] := ⟨_, Tryz.func65, by kernel_rfl, Tryz.ntmps65, by kernel_rfl⟩
noncomputable def F_spec_WalkBy_l1 (sys : ((List Int) × (List ((List Int) × (List Int))))) (strategy : Int) (fuel : Int) (r_2 : (List Int)) : ((List Int) × (List (Int × Int × (List Int)))) → Option (((List Int) × (List (Int × Int × (List Int)))) ⊕ (((List Int) × (List (Int × Int × (List Int)))) × Bool))
 | (now, w) =>
  if (decide ((w.length : Int) < fuel)) = true then
   (F_spec_PickBy sys now strategy).bind fun r_4 =>
   if r_4.2.2 = true then
    (F_spec_l7Step sys now r_4.1 r_4.2.1).bind fun r_5 =>
    if r_5.2 = true then
     if (w.length + 1) * 40 ≤ 140737488355328 then
      (F_spec_l1Copy r_5.1).bind fun r_6 =>
      some (.inl (r_6, (w ++ [(r_4.1, r_4.2.1, r_5.1)])))
     else none
    else
     Option.map Sum.inr (
      (F_spec_NormalIn sys now).bind fun r_7 =>
      some ((r_2, w), r_7))
   else
    Option.map Sum.inr (
     (F_spec_NormalIn sys now).bind fun r_8 =>
     some ((r_2, w), r_8))
  else
   Option.map Sum.inr (
    (F_spec_NormalIn sys now).bind fun r_9 =>
    some ((r_2, w), r_9))
noncomputable def F_spec_WalkBy (sys : ((List Int) × (List ((List Int) × (List Int))))) (t : (List Int)) (strategy : Int) (fuel : Int) : Option (((List Int) × (List (Int × Int × (List Int)))) × Bool) :=
 (F_spec_l8Right sys t strategy).bind fun r =>
 if r = true then
  (F_spec_l1In fuel 0 60).bind fun r_1 =>
  if r_1 = true then
   (F_spec_l1Copy t).bind fun r_2 =>
   (F_spec_l1Copy t).bind fun r_3 =>
   loopC (F_spec_WalkBy_l1 sys strategy fuel r_2) (r_3, [])
  else
   some (([], []), false)
 else
  some (([], []), false)
instance c_spec_WalkBy {sys : ((List Int) × (List ((List Int) × (List Int))))} {t : (List Int)} {strategy : Int} {fuel : Int} : HasC (F_spec_WalkBy sys t strategy fuel) fun rr => PFunN Tryz.prog 65 [D_impl_System sys, (slD 1 iD) t, iD strategy, iD fuel] [D_impl_Walk rr.1, bD rr.2] := ⟨@fun rr h => by
  delta F_spec_WalkBy at h
  refine fn65.pureLN (vcm_sound ?_)
  delta mc65
  refine stp ?_
  refine rC h fun r hr h => ?_
  refine iT h fun hc h => ?_
  refine rC h fun r_1 hr_1 h => ?_
  refine iT h fun hc h => ?_
  refine rCo [] [(3, 29)] h fun r_2 hr_2 h => ?_
  refine rCo [] [(3, 32)] h fun r_3 hr_3 h => ?_
  refine m_loopF h [11, 12, 13, 14, 15, 16, 33, 34, 35, 36, 37, 38, 39, 40, 41, 42, 43, 44, 45, 46, 47, 48, 49, 50, 51, 52, 53, 54, 55, 56, 57, 58, 59, 60, 61, 62, 63, 64, 65, 66, 67, 68] (fun pp => [(11, .d (slD 1 iD pp.1))]) (fun pp => [(4, .obj 33 [.d (slD 1 iD sys.1), .d (slD 2 D_impl_Rule sys.2)]), (8, .obj 84 [.d (.sl 0 (some true) []), .d (.sl 0 (some true) [])]), (10, .obj 84 [.own 1 29 (List.map iD r_2), .own 3 65 (List.map D_impl_Step pp.2)]), (29, .tok 2 1 r_2.length), (32, .tok 2 1 r_3.length), (65, .tok 118 3 pp.2.length)]) ?_ ?_
  · try dsimp only
    refine (Weak.thawCell 10 1 65 118 3 rfl rfl rfl).trans ?_
    exact wk
  rintro ⟨now, w⟩ t1 h hb1
  unfold F_spec_WalkBy_l1 at h
  try dsimp only at h
  refine vcm_sound (stp ?_)
  refine iT h fun hc h => ?_
  refine rCN h fun r_4 hr_4 h => ?_
  refine iT h fun hc h => ?_
  refine rCN h fun r_5 hr_5 h => ?_
  refine iT h fun hc h => ?_
  refine ndI h fun hp h => ?_
  refine rCo [] [(3, 68)] h fun r_6 hr_6 h => ?_
  cases h
  refine ⟨_, rfl, ?_⟩
  refine (Weak.drop 64 (by omega)).trans ?_
  refine (Weak.drop 68 (by omega)).trans ?_
  exact wk⟩
def mc36 : MCode :=
 (.seq (.reg (sq 4 [bo 4 33 0] ++ sq 8 [mi 0])) (.seq (.reg (sq 12 [la 2 4, mv 1, mv 2, mv 3, cf 65 [12, 13, 14, 15]] ++ sq 11 [mv 16] ++ sq 17 [ex 11 0, ex 11 1] ++ sq 9 [.alloc 9 84 [.sl 0 (some true) [], .sl 0 (some true) []]] ++ s0 (sr 2 9 17) ++ sq 10 [mv 18])) (.seq (.seq (.reg (sq 19 [mv 10, nt 19])) (.cond (t0 20) (.seq (.reg (sq 8 [mi (-1)])) .ret) .skip)) (.seq (.reg (sq 21 [fa 1 9, ld 21, ln 22] ++ sq 8 [mv 23])) .ret))))
theorem fn36 : MFn Tryz.prog 36 mc36 24 [.tmp 8] := ⟨_, Tryz.func36, by kernel_rfl, Tryz.ntmps36, by kernel_rfl⟩
noncomputable def F_spec_CountBy (sys : ((List Int) × (List ((List Int) × (List Int))))) (t : (List Int)) (strategy : Int) (fuel : Int) : Option Int :=
 (F_spec_WalkBy sys t strategy fuel).bind fun r =>
 if r.2 = true then
  some (r.1.2.length : Int)
 else
  some (-1)
instance c_spec_CountBy {sys : ((List Int) × (List ((List Int) × (List Int))))} {t : (List Int)} {strategy : Int} {fuel : Int} : HasC (F_spec_CountBy sys t strategy fuel) fun rr => PFun Tryz.prog 36 [D_impl_System sys, (slD 1 iD) t, iD strategy, iD fuel] (iD rr) := ⟨@fun rr h => by
  delta F_spec_CountBy at h
  refine fn36.pureL (vcm_sound ?_)
  delta mc36
  refine stp ?_
  exact aut⟩
def mc37 : MCode :=
 (.seq (.reg (sq 4 [mi 0])) (.seq (.seq (.reg (sq 5 [mv 0, mv 1, bn .gtr 5 6])) (.cond (t0 7) (.seq (.reg (sq 8 [mv 0] ++ sq 4 [mv 8])) .ret) .skip)) (.seq (.reg (sq 9 [mv 1] ++ sq 4 [mv 9])) .ret)))
theorem fn37 : MFn Tryz.prog 37 mc37 10 [.tmp 4] := ⟨_, Tryz.func37, by kernel_rfl, Tryz.ntmps37, by kernel_rfl⟩
noncomputable def F_spec_l1Max (a : Int) (b : Int) : Option Int :=
 if (decide (b < a)) = true then
  some a
 else
  some b
instance c_spec_l1Max {a : Int} {b : Int} : HasC (F_spec_l1Max a b) fun rr => PFun Tryz.prog 37 [iD a, iD b] (iD rr) := ⟨@fun rr h => by
  delta F_spec_l1Max at h
  refine fn37.pureL (vcm_sound ?_)
  delta mc37
  refine stp ?_
  exact aut⟩
def mc15 : MCode :=
 (.seq (.reg (sq 3 [bo 3 33 0] ++ sq 6 [mi 0])) (.seq (.reg (sq 13 [la 2 3, mv 1, cf 34 [13, 14]] ++ sq 12 [mv 15] ++ sq 16 [ex 12 0, ex 12 1] ++ sq 7 [mv 16, mv 17])) (.seq (.seq (.reg (sq 18 [mv 8, nt 18, mv 19] ++ sg 20 false 21 [mv 2, .callf 35 [(t0 21), (i0 0), (i0 60)], nt 22] ++ sq 24 [po 20 23])) (.cond (t0 24) (.seq (.reg (sq 6 [mi (-1)])) .ret) .skip)) (.seq (.reg (sq 9 [mi 0])) (.seq (.seq (.reg (sq 10 [mi 0])) (.block 0 (.loop (.seq (.seq (.reg (sq 25 [mv 10, mv 7, ln 26, bn .lss 25 27])) (.cond (t0 28) .skip (.exit 0))) (.seq (.block 1 (.seq (.draw (sq 31 [la 2 3, mv 7, mv 10, ix 1 32 33, ld 34, mv 2, .callf 36 [(t0 31), (t0 35), (i0 1), (t0 36)]] ++ sq 11 [mv 37]) [[], [], [], [1, 2], [3], [], [0, 4, 5], [6, 6, 0, 1, 2, 3, 4, 5, 6]]) (.seq (.seq (.reg (sq 38 [mv 11, bi .lss 38 0])) (.cond (t0 39) (.seq (.reg (sq 6 [mi (-1)])) .ret) .skip)) (.reg (sq 40 [mv 9, mv 11, cf 37 [40, 41]] ++ sq 9 [mv 42]))))) (.reg (sq 29 [mv 10, bi .add 29 1] ++ sq 10 [mv 30]))))))) (.seq (.reg (sq 43 [mv 9] ++ sq 6 [mv 43])) .ret))))))
theorem fn15 : MFn Tryz.prog 15 mc15 44 [.tmp 6] := ⟨_, Tryz.func15, by kernel_rfl, Tryz.ntmps15, by kernel_rfl⟩
noncomputable def F_spec_InmostTime_l1 (sys : ((List Int) × (List ((List Int) × (List Int))))) (fuel : Int) (r : ((List (List Int)) × Bool)) : (Int × Int) → Option ((Int × Int) ⊕ Int)
 | (most, i) =>
  if (decide (i < (r.1.length : Int))) = true then
   if 0 ≤ i ∧ i < (r.1.length : Int) then
    (F_spec_CountBy sys (r.1.getD i.toNat default) 1 fuel).bind fun r_2 =>
    if (decide (r_2 < 0)) = true then
     Option.map Sum.inr (
      some (-1))
    else
     (F_spec_l1Max most r_2).bind fun r_3 =>
     some (.inl (r_3, (IntKind.i64.wrap (i + 1))))
   else none
  else
   Option.map Sum.inr (
    some most)
noncomputable def F_spec_InmostTime (sys : ((List Int) × (List ((List Int) × (List Int))))) (n : Int) (fuel : Int) : Option Int :=
 (F_spec_BasicsOf sys n).bind fun r =>
 if r.2 = true then
  (F_spec_l1In fuel 0 60).bind fun r_1 =>
  if r_1 = true then
   loopC (F_spec_InmostTime_l1 sys fuel r) (0, 0)
  else
   some (-1)
 else
  some (-1)
instance c_spec_InmostTime {sys : ((List Int) × (List ((List Int) × (List Int))))} {n : Int} {fuel : Int} : HasC (F_spec_InmostTime sys n fuel) fun rr => PFun Tryz.prog 15 [D_impl_System sys, iD n, iD fuel] (iD rr) := ⟨@fun rr h => by
  delta F_spec_InmostTime at h
  refine fn15.pureL (vcm_sound ?_)
  delta mc15
  refine stp ?_
  refine rCN h fun r hr h => ?_
  refine iT h fun hc h => ?_
  refine rC h fun r_1 hr_1 h => ?_
  refine iT h fun hc h => ?_
  refine m_lW h [6, 9, 10, 11, 25, 26, 27, 28, 29, 30, 31, 32, 33, 34, 35, 36, 37, 38, 39, 40, 41, 42] (fun pp => [(9, .d (iD pp.1)), (10, .d (iD pp.2))]) (fun pp => [(3, .obj 33 [.d (slD 1 iD sys.1), .d (slD 2 D_impl_Rule sys.2)])]) ?_
  rintro ⟨most, i⟩ t1 h hb1
  unfold F_spec_InmostTime_l1 at h
  try dsimp only at h
  refine vcm_sound (stp ?_)
  exact aut⟩
end Go.Proofs.YtcbfefbocpikoaaGreat
namespace Go.Proofs.YtcbfefbocpikoaaGreat
open Go Abx
attribute [local irreducible] vcm vgo vdr vrun vdrun MWp GhostQ BrC BrO BrG BrD BrH AmbO callR callD drQ EnvLe StoLe
set_option maxHeartbeats 4000000
def D_impl_choice (x : ((List Int) × (List ((List Int) × (List Int))) × (List Int) × (List Int))) : D := .agg [(slD 1 iD) x.1, (slD 2 D_impl_Rule) x.2.1, (slD 1 iD) x.2.2.1, (slD 1 iD) x.2.2.2]
instance : Cel D_impl_choice 4 := ⟨fun _ => rfl⟩
attribute [go_sem] D_impl_choice
def mc108 : MCode :=
 (.seq (.reg (sq 2 [bo 2 70 0, mb false])) (.seq (.draw (sq 4 [fa 0 2, ld 4, .ixa 1 (t0 5) (i0 0), ld 6, ld 1, bn .eql 7 8] ++ sq 3 [mv 9]) [[], [0], [1], [2], [], [3, 4], [5, 0, 1, 2, 3, 4, 5]]) .ret))
theorem fn108 : MFn Tryz.prog 108 mc108 10 [.tmp 3] := ⟨_, Tryz.func108, by kernel_rfl, Tryz.ntmps108, by kernel_rfl⟩
noncomputable def F_impl_isDefined_1 (r : ((List Int) × (List Int))) (o0 : Int) : Option Bool :=
 if 0 ≤ 0 ∧ 0 < (r.1.length : Int) then
  some ((r.1.getD 0 default) == o0)
 else none
instance c_impl_isDefined_1 {r : ((List Int) × (List Int))} {o0 : Int} : HasC (F_impl_isDefined_1 r o0) fun rr => ACalls Tryz.prog 108 [.d (.agg [slD 1 iD r.1, slD 1 iD r.2]), .ptr 0 0] [(0, .obj 2 [.d (iD o0)])] 1 fun xx ss => xx = .d (bD rr) ∧ ss = [(0, .obj 2 [.d (iD o0)])] := ⟨@fun rr h => by
  delta F_impl_isDefined_1 at h
  refine fn108.callsO (vcm_sound ?_)
  delta mc108
  refine stp ?_
  refine ndI h fun hp h => ?_
  refine drQ_of (by kernel_rfl) (stp ?_)
  cases h
  exact ⟨[2], by simp, don, don⟩⟩
def mc130 : MCode :=
 (.seq (.reg (sq 4 [mi 0])) (.seq (.seq (.reg (sq 6 [mv 0, ln 6, mi 0])) (.block 0 (.loop (.seq (.reg (sq 9 [bn .lss 8 7])) (.seq (.cond (t0 9) .skip (.exit 0)) (.seq (.block 1 (.seq (.reg (sq 10 [mv 8] ++ sq 5 [mv 10])) (.seq (.reg (sq 11 [mv 1, mv 0, mv 5, ix 2 12 13, la 2 14, .callv (t0 11) [(t0 15)]])) (.cond (t0 16) (.seq (.reg (sq 17 [mv 5] ++ sq 4 [mv 17])) .ret) .skip)))) (.reg (sq 18 [bi .add 8 1] ++ sq 8 [mv 18])))))))) (.seq (.reg (sq 4 [mi (-1)])) .ret)))
theorem fn130 : MFn Tryz.prog 130 mc130 19 [.tmp 4] := ⟨_, Tryz.func130, by kernel_rfl, Tryz.ntmps130, by kernel_rfl⟩
noncomputable def F_slices_IndexFunc_impl_Rule_impl_Rule_l1 (s : (List ((List Int) × (List Int)))) (o0 : Int) : Int → Option (Int ⊕ Int)
 | v8 =>
  if (decide (v8 < (s.length : Int))) = true then
   if 0 ≤ v8 ∧ v8 < (s.length : Int) then
    (F_impl_isDefined_1 ((s.getD v8.toNat default).1, (s.getD v8.toNat default).2) o0).bind fun r =>
    if r = true then
     Option.map Sum.inr (
      some v8)
    else
     some (.inl (IntKind.i64.wrap (v8 + 1)))
   else none
  else
   Option.map Sum.inr (
    some (-1))
noncomputable def F_slices_IndexFunc_impl_Rule_impl_Rule (s : (List ((List Int) × (List Int)))) (o0 : Int) : Option Int :=
 loopC (F_slices_IndexFunc_impl_Rule_impl_Rule_l1 s o0) 0
instance c_slices_IndexFunc_impl_Rule_impl_Rule {s : (List ((List Int) × (List Int)))} {o0 : Int} : HasC (F_slices_IndexFunc_impl_Rule_impl_Rule s o0) fun rr => ACalls Tryz.prog 130 [.d (slD 2 D_impl_Rule s), .fn 108 [] [.ptr 0 0]] [(0, .obj 2 [.d (iD o0)])] 1 fun xx ss => xx = .d (iD rr) ∧ ss = [(0, .obj 2 [.d (iD o0)])] := ⟨@fun rr h => by
  delta F_slices_IndexFunc_impl_Rule_impl_Rule at h
  refine fn130.callsO (vcm_sound ?_)
  delta mc130
  refine stp ?_
  refine m_lW h [4, 5, 8, 9, 10, 11, 12, 13, 14, 15, 16, 17, 18] (fun pp => [(8, .d (iD pp))]) (fun pp => [(0, .obj 2 [.d (iD o0)])]) ?_
  rintro v8 t1 h hb1
  unfold F_slices_IndexFunc_impl_Rule_impl_Rule_l1 at h
  try dsimp only at h
  refine vcm_sound (stp ?_)
  refine iT h fun hc h => ?_
  refine ndI h fun hp h => ?_
  refine need_i (by kernel_rfl) ?_
  refine rCo [(0, 0)] [] h fun r hr h => ?_
  exact aut⟩
def mc107 : MCode :=
 (.seq (.reg (sq 4 [mb false])) (.seq (.reg (sq 5 [mv 0, mv 1, cf 130 [5, 6], bi .geq 7 0] ++ sq 4 [mv 8])) .ret))
theorem fn107 : MFn Tryz.prog 107 mc107 9 [.tmp 4] := ⟨_, Tryz.func107, by kernel_rfl, Tryz.ntmps107, by kernel_rfl⟩
noncomputable def F_slices_ContainsFunc_impl_Rule_impl_Rule (s : (List ((List Int) × (List Int)))) (o0 : Int) : Option Bool :=
 (F_slices_IndexFunc_impl_Rule_impl_Rule s o0).bind fun r =>
 some (decide (0 ≤ r))
instance c_slices_ContainsFunc_impl_Rule_impl_Rule {s : (List ((List Int) × (List Int)))} {o0 : Int} : HasC (F_slices_ContainsFunc_impl_Rule_impl_Rule s o0) fun rr => ACalls Tryz.prog 107 [.d (slD 2 D_impl_Rule s), .fn 108 [] [.ptr 0 0]] [(0, .obj 2 [.d (iD o0)])] 1 fun xx ss => xx = .d (bD rr) ∧ ss = [(0, .obj 2 [.d (iD o0)])] := ⟨@fun rr h => by
  delta F_slices_ContainsFunc_impl_Rule_impl_Rule at h
  refine fn107.callsO (vcm_sound ?_)
  delta mc107
  refine stp ?_
  refine rCo [(0, 0)] [] h fun r hr h => ?_
  exact aut⟩
def mc67 : MCode :=
 (.seq (.reg (sq 2 [bo 2 33 0, bo 3 2 1, mb false])) (.seq (.reg (sq 5 [fa 1 2, ld 5, .mkfn 108 [] [(t0 3)], cf 107 [6, 7]] ++ sq 4 [mv 8])) .ret))
theorem fn67 : MFn Tryz.prog 67 mc67 9 [.tmp 4] := ⟨_, Tryz.func67, by kernel_rfl, Tryz.ntmps67, by kernel_rfl⟩
noncomputable def F_impl_isDefined (sys : ((List Int) × (List ((List Int) × (List Int))))) (f : Int) : Option Bool :=
 (F_slices_ContainsFunc_impl_Rule_impl_Rule sys.2 f).bind fun r =>
 some r
instance c_impl_isDefined {sys : ((List Int) × (List ((List Int) × (List Int))))} {f : Int} : HasC (F_impl_isDefined sys f) fun rr => PFun Tryz.prog 67 [D_impl_System sys, iD f] (bD rr) := ⟨@fun rr h => by
  delta F_impl_isDefined at h
  refine fn67.pureL (vcm_sound ?_)
  delta mc67
  refine stp ?_
  refine rCo [(0, 3)] [] h fun r hr h => ?_
  exact aut⟩
def mc69 : MCode :=
 (.seq (.reg (sq 3 [mb false])) (.seq (.reg (sq 4 [la 2 1, mv 0, cf 67 [4, 5]] ++ sq 3 [mv 6])) .ret))
theorem fn69 : MFn Tryz.prog 69 mc69 7 [.tmp 3] := ⟨_, Tryz.func69, by kernel_rfl, Tryz.ntmps69, by kernel_rfl⟩
noncomputable def F_impl_BasicsOf_1 (f : Int) (o00 : (List Int)) (o01 : (List ((List Int) × (List Int)))) : Option Bool :=
 (F_impl_isDefined (o00, o01) f).bind fun r =>
 some r
instance c_impl_BasicsOf_1 {f : Int} {o00 : (List Int)} {o01 : (List ((List Int) × (List Int)))} : HasC (F_impl_BasicsOf_1 f o00 o01) fun rr => ACalls Tryz.prog 69 [.d (iD f), .ptr 0 0] [(0, .obj 33 [.d (slD 1 iD o00), .d (slD 2 D_impl_Rule o01)])] 1 fun xx ss => xx = .d (bD rr) ∧ ss = [(0, .obj 33 [.d (slD 1 iD o00), .d (slD 2 D_impl_Rule o01)])] := ⟨@fun rr h => by
  delta F_impl_BasicsOf_1 at h
  refine fn69.callsO (vcm_sound ?_)
  delta mc69
  refine stp ?_
  exact aut⟩
def mc109 : MCode :=
 (.seq (.reg (sq 4 [mi 0])) (.seq (.seq (.reg (sq 6 [mv 0, ln 6, mi 0])) (.block 0 (.loop (.seq (.reg (sq 9 [bn .lss 8 7])) (.seq (.cond (t0 9) .skip (.exit 0)) (.seq (.block 1 (.seq (.reg (sq 10 [mv 8] ++ sq 5 [mv 10])) (.seq (.reg (sq 11 [mv 1, mv 0, mv 5, ix 1 12 13, ld 14, .callv (t0 11) [(t0 15)]])) (.cond (t0 16) (.seq (.reg (sq 17 [mv 5] ++ sq 4 [mv 17])) .ret) .skip)))) (.reg (sq 18 [bi .add 8 1] ++ sq 8 [mv 18])))))))) (.seq (.reg (sq 4 [mi (-1)])) .ret)))
theorem fn109 : MFn Tryz.prog 109 mc109 19 [.tmp 4] := ⟨_, Tryz.func109, by kernel_rfl, Tryz.ntmps109, by kernel_rfl⟩
noncomputable def F_slices_IndexFunc_int64_int64_s2_l1 (s : (List Int)) (o00 : (List Int)) (o01 : (List ((List Int) × (List Int)))) : Int → Option (Int ⊕ Int)
 | v8 =>
  if (decide (v8 < (s.length : Int))) = true then
   if 0 ≤ v8 ∧ v8 < (s.length : Int) then
    (F_impl_BasicsOf_1 (s.getD v8.toNat default) o00 o01).bind fun r =>
    if r = true then
     Option.map Sum.inr (
      some v8)
    else
     some (.inl (IntKind.i64.wrap (v8 + 1)))
   else none
  else
   Option.map Sum.inr (
    some (-1))
noncomputable def F_slices_IndexFunc_int64_int64_s2 (s : (List Int)) (o00 : (List Int)) (o01 : (List ((List Int) × (List Int)))) : Option Int :=
 loopC (F_slices_IndexFunc_int64_int64_s2_l1 s o00 o01) 0
instance c_slices_IndexFunc_int64_int64_s2 {s : (List Int)} {o00 : (List Int)} {o01 : (List ((List Int) × (List Int)))} : HasC (F_slices_IndexFunc_int64_int64_s2 s o00 o01) fun rr => ACalls Tryz.prog 109 [.d (slD 1 iD s), .fn 69 [] [.ptr 0 0]] [(0, .obj 33 [.d (slD 1 iD o00), .d (slD 2 D_impl_Rule o01)])] 1 fun xx ss => xx = .d (iD rr) ∧ ss = [(0, .obj 33 [.d (slD 1 iD o00), .d (slD 2 D_impl_Rule o01)])] := ⟨@fun rr h => by
  delta F_slices_IndexFunc_int64_int64_s2 at h
  refine fn109.callsO (vcm_sound ?_)
  delta mc109
  refine stp ?_
  refine m_lW h [4, 5, 8, 9, 10, 11, 12, 13, 14, 15, 16, 17, 18] (fun pp => [(8, .d (iD pp))]) (fun pp => [(0, .obj 33 [.d (slD 1 iD o00), .d (slD 2 D_impl_Rule o01)])]) ?_
  rintro v8 t1 h hb1
  unfold F_slices_IndexFunc_int64_int64_s2_l1 at h
  try dsimp only at h
  refine vcm_sound (stp ?_)
  refine iT h fun hc h => ?_
  refine ndI h fun hp h => ?_
  refine need_i (by kernel_rfl) ?_
  refine rCo [(0, 0)] [] h fun r hr h => ?_
  exact aut⟩
def mc68 : MCode :=
 (.seq (.reg (sq 4 [mb false])) (.seq (.reg (sq 5 [mv 0, mv 1, cf 109 [5, 6], bi .geq 7 0] ++ sq 4 [mv 8])) .ret))
theorem fn68 : MFn Tryz.prog 68 mc68 9 [.tmp 4] := ⟨_, Tryz.func68, by kernel_rfl, Tryz.ntmps68, by kernel_rfl⟩
noncomputable def F_slices_ContainsFunc_int64_int64_s2 (s : (List Int)) (o00 : (List Int)) (o01 : (List ((List Int) × (List Int)))) : Option Bool :=
 (F_slices_IndexFunc_int64_int64_s2 s o00 o01).bind fun r =>
 some (decide (0 ≤ r))
instance c_slices_ContainsFunc_int64_int64_s2 {s : (List Int)} {o00 : (List Int)} {o01 : (List ((List Int) × (List Int)))} : HasC (F_slices_ContainsFunc_int64_int64_s2 s o00 o01) fun rr => ACalls Tryz.prog 68 [.d (slD 1 iD s), .fn 69 [] [.ptr 0 0]] [(0, .obj 33 [.d (slD 1 iD o00), .d (slD 2 D_impl_Rule o01)])] 1 fun xx ss => xx = .d (bD rr) ∧ ss = [(0, .obj 33 [.d (slD 1 iD o00), .d (slD 2 D_impl_Rule o01)])] := ⟨@fun rr h => by
  delta F_slices_ContainsFunc_int64_int64_s2 at h
  refine fn68.callsO (vcm_sound ?_)
  delta mc68
  refine stp ?_
  refine rCo [(0, 0)] [] h fun r hr h => ?_
  exact aut⟩
def mc38 : MCode :=
 (.seq (.reg (sq 2 [bo 2 33 0] ++ sq 4 [.mv (.const (.slice none 0 0)), mb false])) (.seq (.seq (.reg (sq 11 [la 2 2, cf 54 [11], nt 12])) (.cond (t0 13) (.seq (.reg (sq 4 [.mv (.const (.slice none 0 0)), mb false])) .ret) .skip)) (.seq (.reg (sq 15 [fa 0 2, la 1 15, mv 1, cf 66 [16, 17]] ++ sq 14 [mv 18] ++ sq 19 [ex 14 0, ex 14 1] ++ sq 6 [mv 19, mv 20])) (.seq (.seq (.reg (sq 21 [mv 7, nt 21])) (.cond (t0 22) (.seq (.reg (sq 4 [.mv (.const (.slice none 0 0)), mb false])) .ret) .skip)) (.seq (.reg (sq 8 [.mv (.const (.slice none 0 0))])) (.seq (.seq (.reg (sq 23 [mv 6, ln 23, mi 0])) (.block 0 (.loop (.seq (.reg (sq 26 [bn .lss 25 24])) (.seq (.cond (t0 26) .skip (.exit 0)) (.seq (.block 1 (.seq (.reg (sq 27 [ix 1 23 25, ld 27] ++ sq 10 [mv 28])) (.seq (.draw (sq 29 [la 2 2, mv 10, .ixa 1 (t0 30) (i0 0), ld 31, cf 67 [29, 32], mv 33] ++ sg 34 true 35 [mv 10, .slc (t0 35) 1 (some (i0 1)) none none, .mkfn 69 [] [(t0 2)], cf 68 [36, 37], nt 38] ++ sq 40 [pa 34 39]) [[], [], [1], [2], [0, 3], [4, 4], [5], [6, 5], [5], [7, 8, 5, 5], [9, 5], [5, 10]]) (.cond (t0 40) (.reg (sq 41 [mv 8, mv 10, .bsl 43 22 1 [(t0 42)], ap 44 22 1 24 41 43] ++ sq 8 [mv 44])) .skip)))) (.reg (sq 45 [bi .add 25 1] ++ sq 25 [mv 45])))))))) (.seq (.reg (sq 46 [mv 8] ++ sq 4 [mv 46, mb true])) .ret)))))))
theorem fn38 : MFn Tryz.prog 38 mc38 47 [.tmp 4, .tmp 5] := ⟨_, Tryz.func38, by kernel_rfl, Tryz.ntmps38, by kernel_rfl⟩
noncomputable def F_impl_BasicsOf_l1 (sys : ((List Int) × (List ((List Int) × (List Int))))) (r_1 : ((List (List Int)) × Bool)) : ((List (List Int)) × Int) → Option (((List (List Int)) × Int) ⊕ ((List (List Int)) × Bool))
 | (out, v25) =>
  if (decide (v25 < (r_1.1.length : Int))) = true then
   if 0 ≤ v25 ∧ v25 < (r_1.1.length : Int) then
    if 0 ≤ 0 ∧ 0 < ((r_1.1.getD v25.toNat default).length : Int) then
     (F_impl_isDefined sys ((r_1.1.getD v25.toNat default).getD 0 default)).bind fun r_2 =>
     if r_2 = true then
      if 0 ≤ 1 ∧ 1 ≤ ((r_1.1.getD v25.toNat default).length : Int) then
       (F_slices_ContainsFunc_int64_int64_s2 ((r_1.1.getD v25.toNat default).drop 1) sys.1 sys.2).bind fun r_3 =>
       if r_3 = true then
        some (.inl (out, (IntKind.i64.wrap (v25 + 1))))
       else
        if (out.length + 1) * 24 ≤ 140737488355328 then
         some (.inl ((out ++ [(r_1.1.getD v25.toNat default)]), (IntKind.i64.wrap (v25 + 1))))
        else none
      else none
     else
      some (.inl (out, (IntKind.i64.wrap (v25 + 1))))
    else none
   else none
  else
   Option.map Sum.inr (
    some (out, true))
noncomputable def F_impl_BasicsOf (sys : ((List Int) × (List ((List Int) × (List Int))))) (n : Int) : Option ((List (List Int)) × Bool) :=
 (F_impl_SystemOk sys).bind fun r =>
 if r = true then
  (F_impl_GroundsOf sys.1 n).bind fun r_1 =>
  if r_1.2 = true then
   loopC (F_impl_BasicsOf_l1 sys r_1) ([], 0)
  else
   some ([], false)
 else
  some ([], false)
instance c_impl_BasicsOf {sys : ((List Int) × (List ((List Int) × (List Int))))} {n : Int} : HasC (F_impl_BasicsOf sys n) fun rr => PFunN Tryz.prog 38 [D_impl_System sys, iD n] [(slD 1 (slD 1 iD)) rr.1, bD rr.2] := ⟨@fun rr h => by
  delta F_impl_BasicsOf at h
  refine fn38.pureLN (vcm_sound ?_)
  delta mc38
  refine stp ?_
  refine rC h fun r hr h => ?_
  refine iT h fun hc h => ?_
  refine rCN h fun r_1 hr_1 h => ?_
  refine iT h fun hc h => ?_
  refine m_loopF h [8, 10, 25, 26, 27, 28, 29, 30, 31, 32, 33, 34, 35, 36, 37, 38, 39, 40, 41, 42, 43, 44, 45] (fun pp => [(8, .own 1 44 (List.map (slD 1 iD) pp.1)), (25, .d (iD pp.2))]) (fun pp => [(2, .obj 33 [.d (slD 1 iD sys.1), .d (slD 2 D_impl_Rule sys.2)]), (44, .tok 22 1 pp.1.length)]) ?_ ?_
  · try dsimp only
    refine (Weak.thaw 8 44 22 1 rfl rfl).trans ?_
    exact wk
  rintro ⟨out, v25⟩ t1 h hb1
  unfold F_impl_BasicsOf_l1 at h
  try dsimp only at h
  refine vcm_sound (stp ?_)
  refine iT h fun hc h => ?_
  refine ndI h fun hp h => ?_
  refine ndI h fun hp h => ?_
  refine dC h fun r_2 hr_2 h => ?_
  refine iT h fun hc h => ?_
  refine ndI h fun hp h => ?_
  refine dCo [(0, 2)] [] h fun r_3 hr_3 h => ?_
  refine drQ_of (by kernel_rfl) (stp ?_)
  refine iF h fun hc h => ?_
  refine ndI h fun hp h => ?_
  cases h
  refine ⟨_, rfl, ?_⟩
  refine (Weak.drop 43 (by omega)).trans ?_
  exact wk⟩
def mc110 : MCode :=
 (.seq (.reg (sq 3 [bo 3 33 0] ++ sq 6 [mb false])) (.seq (.reg (sq 7 [la 2 3, cf 54 [7], mv 8] ++ sg 9 true 10 [fa 0 3, la 1 10, mv 1, cf 56 [11, 12]] ++ sq 14 [pa 9 13, mv 14] ++ sg 15 true 16 [mv 2, bi .geq 16 1] ++ sq 18 [pa 15 17, mv 18] ++ sg 19 true 20 [mv 2, bi .leq 20 3] ++ sq 22 [pa 19 21] ++ sq 6 [mv 22])) .ret))
theorem fn110 : MFn Tryz.prog 110 mc110 23 [.tmp 6] := ⟨_, Tryz.func110, by kernel_rfl, Tryz.ntmps110, by kernel_rfl⟩
noncomputable def F_impl_strategyOk (sys : ((List Int) × (List ((List Int) × (List Int))))) (t : (List Int)) (strategy : Int) : Option Bool :=
 (F_impl_SystemOk sys).bind fun r =>
 if r = true then
  (F_impl_TermOk sys.1 t).bind fun r_1 =>
  if r_1 = true then
   if (decide (1 ≤ strategy)) = true then
    some (decide (strategy ≤ 3))
   else
    some false
  else
   some false
 else
  some false
instance c_impl_strategyOk {sys : ((List Int) × (List ((List Int) × (List Int))))} {t : (List Int)} {strategy : Int} : HasC (F_impl_strategyOk sys t strategy) fun rr => PFun Tryz.prog 110 [D_impl_System sys, (slD 1 iD) t, iD strategy] (bD rr) := ⟨@fun rr h => by
  delta F_impl_strategyOk at h
  refine fn110.pureL (vcm_sound ?_)
  delta mc110
  refine stp ?_
  exact aut⟩
def mc153 : MCode :=
 (.seq (.reg (sq 4 [bo 4 33 0] ++ sq 8 [mb false])) (.seq (.draw (sq 9 [fa 0 4, la 1 9, fa 1 4, ld 11, mv 3, ix 2 12 13, fa 0 14, ld 15, fa 0 4, la 1 17, mv 1, mv 2, cf 89 [18, 19, 20], cf 29 [10, 16, 21]] ++ sq 8 [mv 22]) [[], [0], [], [2], [], [3, 4], [5], [6], [], [8], [], [], [9, 10, 11], [1, 7, 12, 12], [13, 13, 0, 1, 2, 3, 4, 5, 6, 7, 8, 9, 10, 11, 12, 13]]) .ret))
theorem fn153 : MFn Tryz.prog 153 mc153 23 [.tmp 8] := ⟨_, Tryz.func153, by kernel_rfl, Tryz.ntmps153, by kernel_rfl⟩
noncomputable def F_impl_redex (sys : ((List Int) × (List ((List Int) × (List Int))))) (t : (List Int)) (at' : Int) (rule : Int) : Option Bool :=
 if 0 ≤ rule ∧ rule < (sys.2.length : Int) then
  (F_impl_subAt sys.1 t at').bind fun r =>
  (F_impl_instance sys.1 ((sys.2.getD rule.toNat default).1) r).bind fun r_1 =>
  some r_1
 else none
instance c_impl_redex {sys : ((List Int) × (List ((List Int) × (List Int))))} {t : (List Int)} {at' : Int} {rule : Int} : HasC (F_impl_redex sys t at' rule) fun rr => PFun Tryz.prog 153 [D_impl_System sys, (slD 1 iD) t, iD at', iD rule] (bD rr) := ⟨@fun rr h => by
  delta F_impl_redex at h
  refine fn153.pureL (vcm_sound ?_)
  delta mc153
  refine stp ?_
  exact aut⟩
def mc132 : MCode :=
 (.seq (.reg (sq 3 [bo 3 33 0] ++ sq 6 [mi 0])) (.seq (.seq (.reg (sq 8 [fa 1 3, ld 8, ln 9, mi 0])) (.block 0 (.loop (.seq (.reg (sq 12 [bn .lss 11 10])) (.seq (.cond (t0 12) .skip (.exit 0)) (.seq (.block 1 (.seq (.reg (sq 13 [mv 11] ++ sq 7 [mv 13])) (.seq (.reg (sq 14 [la 2 3, mv 1, mv 2, mv 7, cf 153 [14, 15, 16, 17]])) (.cond (t0 18) (.seq (.reg (sq 19 [mv 7] ++ sq 6 [mv 19])) .ret) .skip)))) (.reg (sq 20 [bi .add 11 1] ++ sq 11 [mv 20])))))))) (.seq (.reg (sq 6 [mi (-1)])) .ret)))
theorem fn132 : MFn Tryz.prog 132 mc132 21 [.tmp 6] := ⟨_, Tryz.func132, by kernel_rfl, Tryz.ntmps132, by kernel_rfl⟩
noncomputable def F_impl_ruleAt_l1 (sys : ((List Int) × (List ((List Int) × (List Int))))) (t : (List Int)) (at' : Int) : Int → Option (Int ⊕ Int)
 | v11 =>
  if (decide (v11 < (sys.2.length : Int))) = true then
   (F_impl_redex sys t at' v11).bind fun r =>
   if r = true then
    Option.map Sum.inr (
     some v11)
   else
    some (.inl (IntKind.i64.wrap (v11 + 1)))
  else
   Option.map Sum.inr (
    some (-1))
noncomputable def F_impl_ruleAt (sys : ((List Int) × (List ((List Int) × (List Int))))) (t : (List Int)) (at' : Int) : Option Int :=
 loopC (F_impl_ruleAt_l1 sys t at') 0
instance c_impl_ruleAt {sys : ((List Int) × (List ((List Int) × (List Int))))} {t : (List Int)} {at' : Int} : HasC (F_impl_ruleAt sys t at') fun rr => PFun Tryz.prog 132 [D_impl_System sys, (slD 1 iD) t, iD at'] (iD rr) := ⟨@fun rr h => by
  delta F_impl_ruleAt at h
  refine fn132.pureL (vcm_sound ?_)
  delta mc132
  refine stp ?_
  refine m_lW h [6, 7, 11, 12, 13, 14, 15, 16, 17, 18, 19, 20] (fun pp => [(11, .d (iD pp))]) (fun pp => [(3, .obj 33 [.d (slD 1 iD sys.1), .d (slD 2 D_impl_Rule sys.2)])]) ?_
  rintro v11 t1 h hb1
  unfold F_impl_ruleAt_l1 at h
  try dsimp only at h
  refine vcm_sound (stp ?_)
  exact aut⟩
def mc149 : MCode :=
 (.seq (.reg (sq 2 [bo 2 33 0] ++ sq 4 [.mv (.const (.slice none 0 0))])) (.seq (.reg (sq 5 [.mv (.const (.slice none 0 0))])) (.seq (.seq (.reg (sq 8 [mv 1, ln 8, mi 0])) (.block 0 (.loop (.seq (.reg (sq 11 [bn .lss 10 9])) (.seq (.cond (t0 11) .skip (.exit 0)) (.seq (.block 1 (.seq (.reg (sq 12 [mv 10, ix 1 8 10, ld 13] ++ sq 6 [mv 12, mv 14])) (.seq (.reg (sq 15 [mv 7, bi .geq 15 0, mv 16] ++ sg 17 true 18 [la 2 2, mv 1, mv 6, cf 132 [18, 19, 20], bi .geq 21 0] ++ sq 23 [pa 17 22])) (.cond (t0 23) (.reg (sq 24 [mv 5, mv 6, .bsl 26 3 1 [(t0 25)], ap 27 3 1 8 24 26] ++ sq 5 [mv 27])) .skip)))) (.reg (sq 28 [bi .add 10 1] ++ sq 10 [mv 28])))))))) (.seq (.reg (sq 29 [mv 5] ++ sq 4 [mv 29])) .ret))))
theorem fn149 : MFn Tryz.prog 149 mc149 30 [.tmp 4] := ⟨_, Tryz.func149, by kernel_rfl, Tryz.ntmps149, by kernel_rfl⟩
noncomputable def F_impl_redexes_l1 (sys : ((List Int) × (List ((List Int) × (List Int))))) (t : (List Int)) : ((List Int) × Int) → Option (((List Int) × Int) ⊕ (List Int))
 | (out, v10) =>
  if (decide (v10 < (t.length : Int))) = true then
   if 0 ≤ v10 ∧ v10 < (t.length : Int) then
    if (decide (0 ≤ (t.getD v10.toNat default))) = true then
     (F_impl_ruleAt sys t v10).bind fun r =>
     if (decide (0 ≤ r)) = true then
      if (out.length + 1) * 8 ≤ 140737488355328 then
       some (.inl ((out ++ [v10]), (IntKind.i64.wrap (v10 + 1))))
      else none
     else
      some (.inl (out, (IntKind.i64.wrap (v10 + 1))))
    else
     some (.inl (out, (IntKind.i64.wrap (v10 + 1))))
   else none
  else
   Option.map Sum.inr (
    some out)
noncomputable def F_impl_redexes (sys : ((List Int) × (List ((List Int) × (List Int))))) (t : (List Int)) : Option (List Int) :=
 loopC (F_impl_redexes_l1 sys t) ([], 0)
instance c_impl_redexes {sys : ((List Int) × (List ((List Int) × (List Int))))} {t : (List Int)} : HasC (F_impl_redexes sys t) fun rr => PFun Tryz.prog 149 [D_impl_System sys, (slD 1 iD) t] ((slD 1 iD) rr) := ⟨@fun rr h => by
  delta F_impl_redexes at h
  refine fn149.pureL (vcm_sound ?_)
  delta mc149
  refine stp ?_
  refine m_loopF h [5, 6, 7, 10, 11, 12, 13, 14, 15, 16, 17, 18, 19, 20, 21, 22, 23, 24, 25, 26, 27, 28] (fun pp => [(5, .own 1 27 (List.map iD pp.1)), (10, .d (iD pp.2))]) (fun pp => [(2, .obj 33 [.d (slD 1 iD sys.1), .d (slD 2 D_impl_Rule sys.2)]), (27, .tok 3 1 pp.1.length)]) ?_ ?_
  · try dsimp only
    refine (Weak.thaw 5 27 3 1 rfl rfl).trans ?_
    exact wk
  rintro ⟨out, v10⟩ t1 h hb1
  unfold F_impl_redexes_l1 at h
  try dsimp only at h
  refine vcm_sound (stp ?_)
  refine iT h fun hc h => ?_
  refine ndI h fun hp h => ?_
  refine iT h fun hc h => ?_
  refine rC h fun r hr h => ?_
  refine iT h fun hc h => ?_
  refine ndI h fun hp h => ?_
  cases h
  refine ⟨_, rfl, ?_⟩
  refine (Weak.drop 26 (by omega)).trans ?_
  exact wk⟩
def mc166 : MCode :=
 (.seq (.reg (sq 4 [bo 4 30 0] ++ sq 8 [mb false])) (.seq (.reg (sq 9 [mv 3, mv 2, bn .geq 9 10, mv 11] ++ sg 12 true 13 [mv 3, la 1 4, mv 1, mv 2, cf 86 [14, 15, 16], bn .lss 13 17] ++ sq 19 [pa 12 18] ++ sq 8 [mv 19])) .ret))
theorem fn166 : MFn Tryz.prog 166 mc166 20 [.tmp 8] := ⟨_, Tryz.func166, by kernel_rfl, Tryz.ntmps166, by kernel_rfl⟩
noncomputable def F_impl_inside (sig : (List Int)) (t : (List Int)) (at' : Int) (p : Int) : Option Bool :=
 if (decide (at' ≤ p)) = true then
  (F_impl_endAt sig t at').bind fun r =>
  some (decide (p < r))
 else
  some false
instance c_impl_inside {sig : (List Int)} {t : (List Int)} {at' : Int} {p : Int} : HasC (F_impl_inside sig t at' p) fun rr => PFun Tryz.prog 166 [D_impl_Sig sig, (slD 1 iD) t, iD at', iD p] (bD rr) := ⟨@fun rr h => by
  delta F_impl_inside at h
  refine fn166.pureL (vcm_sound ?_)
  delta mc166
  refine stp ?_
  exact aut⟩
def mc163 : MCode :=
 (.seq (.reg (sq 2 [bo 2 33 0] ++ sq 4 [.mv (.const (.slice none 0 0))])) (.seq (.reg (sq 9 [la 2 2, mv 1, cf 149 [9, 10]] ++ sq 5 [mv 11])) (.seq (.reg (sq 6 [.mv (.const (.slice none 0 0))])) (.seq (.seq (.reg (sq 12 [mv 5, ln 12, mi 0])) (.block 0 (.loop (.seq (.reg (sq 15 [bn .lss 14 13])) (.seq (.cond (t0 15) .skip (.exit 0)) (.seq (.block 1 (.seq (.reg (sq 16 [mv 14, ix 1 12 14, ld 17] ++ sq 7 [mv 16, mv 18])) (.seq (.draw (sq 19 [mv 7, bi .add 19 1, mv 5, ln 21, bn .eql 20 22, mv 23] ++ sg 24 false 25 [fa 0 2, la 1 25, mv 1, mv 8, mv 5, mv 7, bi .add 30 1, ix 1 29 31, ld 32, cf 166 [26, 27, 28, 33], nt 34] ++ sq 36 [po 24 35]) [[], [0], [], [2], [1, 3], [4], [5], [6, 5], [5], [5], [5], [5], [11, 5], [10, 12, 5], [13, 5], [7, 8, 9, 14, 5, 5], [15, 5], [5, 16]]) (.cond (t0 36) (.reg (sq 37 [mv 6, mv 8, .bsl 39 3 1 [(t0 38)], ap 40 3 1 8 37 39] ++ sq 6 [mv 40])) .skip)))) (.reg (sq 41 [bi .add 14 1] ++ sq 14 [mv 41])))))))) (.seq (.reg (sq 42 [mv 6] ++ sq 4 [mv 42])) .ret)))))
theorem fn163 : MFn Tryz.prog 163 mc163 43 [.tmp 4] := ⟨_, Tryz.func163, by kernel_rfl, Tryz.ntmps163, by kernel_rfl⟩
noncomputable def F_impl_inmost_l1 (sys : ((List Int) × (List ((List Int) × (List Int))))) (t : (List Int)) (r : (List Int)) : ((List Int) × Int) → Option (((List Int) × Int) ⊕ (List Int))
 | (out, v14) =>
  if (decide (v14 < (r.length : Int))) = true then
   if 0 ≤ v14 ∧ v14 < (r.length : Int) then
    if ((IntKind.i64.wrap (v14 + 1)) == (r.length : Int)) = true then
     if (out.length + 1) * 8 ≤ 140737488355328 then
      some (.inl ((out ++ [(r.getD v14.toNat default)]), (IntKind.i64.wrap (v14 + 1))))
     else none
    else
     if 0 ≤ (IntKind.i64.wrap (v14 + 1)) ∧ (IntKind.i64.wrap (v14 + 1)) < (r.length : Int) then
      (F_impl_inside sys.1 t (r.getD v14.toNat default) (r.getD (IntKind.i64.wrap (v14 + 1)).toNat default)).bind fun r_1 =>
      if r_1 = true then
       some (.inl (out, (IntKind.i64.wrap (v14 + 1))))
      else
       if (out.length + 1) * 8 ≤ 140737488355328 then
        some (.inl ((out ++ [(r.getD v14.toNat default)]), (IntKind.i64.wrap (v14 + 1))))
       else none
     else none
   else none
  else
   Option.map Sum.inr (
    some out)
noncomputable def F_impl_inmost (sys : ((List Int) × (List ((List Int) × (List Int))))) (t : (List Int)) : Option (List Int) :=
 (F_impl_redexes sys t).bind fun r =>
 loopC (F_impl_inmost_l1 sys t r) ([], 0)
instance c_impl_inmost {sys : ((List Int) × (List ((List Int) × (List Int))))} {t : (List Int)} : HasC (F_impl_inmost sys t) fun rr => PFun Tryz.prog 163 [D_impl_System sys, (slD 1 iD) t] ((slD 1 iD) rr) := ⟨@fun rr h => by
  delta F_impl_inmost at h
  refine fn163.pureL (vcm_sound ?_)
  delta mc163
  refine stp ?_
  refine rC h fun r hr h => ?_
  refine m_loopF h [6, 7, 8, 14, 15, 16, 17, 18, 19, 20, 21, 22, 23, 24, 25, 26, 27, 28, 29, 30, 31, 32, 33, 34, 35, 36, 37, 38, 39, 40, 41] (fun pp => [(6, .own 1 40 (List.map iD pp.1)), (14, .d (iD pp.2))]) (fun pp => [(2, .obj 33 [.d (slD 1 iD sys.1), .d (slD 2 D_impl_Rule sys.2)]), (40, .tok 3 1 pp.1.length)]) ?_ ?_
  · try dsimp only
    refine (Weak.thaw 6 40 3 1 rfl rfl).trans ?_
    exact wk
  rintro ⟨out, v14⟩ t1 h hb1
  unfold F_impl_inmost_l1 at h
  try dsimp only at h
  refine vcm_sound (stp ?_)
  refine iT h fun hc h => ?_
  refine ndI h fun hp h => ?_
  refine it h (fun hc h => ?_) fun hc h => ?_
  · refine drQ_of (by kernel_rfl) (stp ?_)
    refine ndI h fun hp h => ?_
    cases h
    refine ⟨_, rfl, ?_⟩
    refine (Weak.drop 39 (by omega)).trans ?_
    exact wk
  refine ndI h fun hp h => ?_
  refine dC h fun r_1 hr_1 h => ?_
  refine drQ_of (by kernel_rfl) (stp ?_)
  refine iF h fun hc h => ?_
  refine ndI h fun hp h => ?_
  cases h
  refine ⟨_, rfl, ?_⟩
  refine (Weak.drop 39 (by omega)).trans ?_
  exact wk⟩
def mc150 : MCode :=
 (.seq (.reg (sq 1 [bo 1 171 0, mi 0])) (.seq (.reg (sq 3 [fa 0 1, la 2 3, fa 2 1, ld 5, cf 163 [4, 6], .ixa 1 (t0 7) (i0 0), ld 8] ++ sq 2 [mv 9])) .ret))
theorem fn150 : MFn Tryz.prog 150 mc150 10 [.tmp 2] := ⟨_, Tryz.func150, by kernel_rfl, Tryz.ntmps150, by kernel_rfl⟩
noncomputable def F_impl_choice_inmost (c : ((List Int) × (List ((List Int) × (List Int))) × (List Int) × (List Int))) : Option Int :=
 (F_impl_inmost (c.1, c.2.1) c.2.2.1).bind fun r =>
 if 0 ≤ 0 ∧ 0 < (r.length : Int) then
  some (r.getD 0 default)
 else none
instance c_impl_choice_inmost {c : ((List Int) × (List ((List Int) × (List Int))) × (List Int) × (List Int))} : HasC (F_impl_choice_inmost c) fun rr => PFun Tryz.prog 150 [D_impl_choice c] (iD rr) := ⟨@fun rr h => by
  delta F_impl_choice_inmost at h
  refine fn150.pureL (vcm_sound ?_)
  delta mc150
  refine stp ?_
  exact aut⟩
def mc151 : MCode :=
 (.seq (.reg (sq 1 [bo 1 171 0, mi 0])) (.seq (.reg (sq 3 [fa 3 1, ld 3, .ixa 1 (t0 4) (i0 0), ld 5] ++ sq 2 [mv 6])) .ret))
theorem fn151 : MFn Tryz.prog 151 mc151 7 [.tmp 2] := ⟨_, Tryz.func151, by kernel_rfl, Tryz.ntmps151, by kernel_rfl⟩
noncomputable def F_impl_choice_outmost (c : ((List Int) × (List ((List Int) × (List Int))) × (List Int) × (List Int))) : Option Int :=
 if 0 ≤ 0 ∧ 0 < (c.2.2.2.length : Int) then
  some (c.2.2.2.getD 0 default)
 else none
instance c_impl_choice_outmost {c : ((List Int) × (List ((List Int) × (List Int))) × (List Int) × (List Int))} : HasC (F_impl_choice_outmost c) fun rr => PFun Tryz.prog 151 [D_impl_choice c] (iD rr) := ⟨@fun rr h => by
  delta F_impl_choice_outmost at h
  refine fn151.pureL (vcm_sound ?_)
  delta mc151
  refine stp ?_
  exact aut⟩
def mc152 : MCode :=
 (.seq (.reg (sq 1 [bo 1 171 0, mi 0])) (.seq (.reg (sq 3 [fa 3 1, ld 3, fa 3 1, ld 5, ln 6, bi .sub 7 1, ix 1 4 8, ld 9] ++ sq 2 [mv 10])) .ret))
theorem fn152 : MFn Tryz.prog 152 mc152 11 [.tmp 2] := ⟨_, Tryz.func152, by kernel_rfl, Tryz.ntmps152, by kernel_rfl⟩
noncomputable def F_impl_choice_last (c : ((List Int) × (List ((List Int) × (List Int))) × (List Int) × (List Int))) : Option Int :=
 if 0 ≤ (IntKind.i64.wrap ((c.2.2.2.length : Int) - 1)) ∧ (IntKind.i64.wrap ((c.2.2.2.length : Int) - 1)) < (c.2.2.2.length : Int) then
  some (c.2.2.2.getD (IntKind.i64.wrap ((c.2.2.2.length : Int) - 1)).toNat default)
 else none
instance c_impl_choice_last {c : ((List Int) × (List ((List Int) × (List Int))) × (List Int) × (List Int))} : HasC (F_impl_choice_last c) fun rr => PFun Tryz.prog 152 [D_impl_choice c] (iD rr) := ⟨@fun rr h => by
  delta F_impl_choice_last at h
  refine fn152.pureL (vcm_sound ?_)
  delta mc152
  refine stp ?_
  exact aut⟩
def mc131_impl_pick : MCode :=
 (.seq (.reg (sq 3 [bo 3 33 0] ++ sq 6 [mi 0])) (.seq (.draw (sq 9 [la 2 3, mv 1, la 2 3, mv 1, cf 149 [11, 12], .build [.sl 0 (some true) [], .sl 0 (some true) [], .sl 0 (some true) [], .sl 0 (some true) []] [(0, 2, (t0 9)), (2, 1, (t0 10)), (3, 1, (t0 13))]] ++ sq 7 [.alloc 7 171 [.sl 0 (some true) [], .sl 0 (some true) [], .sl 0 (some true) [], .sl 0 (some true) []]] ++ s0 (sr 4 7 14)) [[], [], [], [], [2, 3], [0, 1, 4], [], [6, 5, 4, 0, 1, 2, 3, 4, 5, 6]]) (.seq (.seq (.reg (sq 15 [fa 3 7, ld 15, ln 16, bi .eql 17 0])) (.cond (t0 18) (.seq (.reg (sq 6 [mi (-1)])) .ret) .skip)) (.seq (.reg (sq 19 [la 4 7, .mkfn 150 [(t0 19)] [], la 4 7, .mkfn 151 [(t0 21)] [], la 4 7, .mkfn 152 [(t0 23)] [], .bslo 25 154 1 [(t0 20), (t0 22), (t0 24)]] ++ sq 8 [mv 25])) (.seq (.reg (sq 26 [mv 8, mv 2, bi .sub 27 1, ix 1 26 28, ld 29, .callv (t0 30) []] ++ sq 6 [mv 31])) .ret)))))
theorem fn131_impl_pick : MFn Tryz.prog 131 mc131_impl_pick 32 [.tmp 6] := ⟨_, Tryz.func131, by kernel_rfl, Tryz.ntmps131, by kernel_rfl⟩
noncomputable def F_impl_pick (sys : ((List Int) × (List ((List Int) × (List Int))))) (t : (List Int)) (strategy : Int) : Option Int :=
 (F_impl_redexes sys t).bind fun r =>
 if ((r.length : Int) == 0) = true then
  some (-1)
 else
  if ((IntKind.i64.wrap (strategy - 1)) == 0) = true then
   (F_impl_choice_inmost (sys.1, sys.2, t, r)).bind fun r_1 =>
   some r_1
  else
   if ((IntKind.i64.wrap (strategy - 1)) == 1) = true then
    (F_impl_choice_outmost (sys.1, sys.2, t, r)).bind fun r_2 =>
    some r_2
   else
    if ((IntKind.i64.wrap (strategy - 1)) == 2) = true then
     (F_impl_choice_last (sys.1, sys.2, t, r)).bind fun r_3 =>
     some r_3
    else
     none
instance c_impl_pick {sys : ((List Int) × (List ((List Int) × (List Int))))} {t : (List Int)} {strategy : Int} : HasC (F_impl_pick sys t strategy) fun rr => PFun Tryz.prog 131 [D_impl_System sys, (slD 1 iD) t, iD strategy] (iD rr) := ⟨@fun rr h => by
  delta F_impl_pick at h
  refine fn131_impl_pick.pureL (vcm_sound ?_)
  delta mc131_impl_pick
  refine stp ?_
  refine dC h fun r hr h => ?_
  refine drQ_of (by kernel_rfl) (stp ?_)
  refine iF h fun hc h => ?_
  refine nds ?_
  rcases ite_some h with ⟨hc, h⟩ | ⟨hc, h⟩
  · have hq := eq_of_beq hc
    simp only [hq]
    refine stp ?_
    refine nds ?_
    refine need_i (by kernel_rfl) ?_
    exact aut
  · skip
    rcases ite_some h with ⟨hc, h⟩ | ⟨hc, h⟩
    · have hq := eq_of_beq hc
      simp only [hq]
      refine stp ?_
      refine nds ?_
      refine need_i (by kernel_rfl) ?_
      exact aut
    · skip
      rcases ite_some h with ⟨hc, h⟩ | ⟨hc, h⟩
      · have hq := eq_of_beq hc
        simp only [hq]
        refine stp ?_
        refine nds ?_
        refine need_i (by kernel_rfl) ?_
        exact aut
      · cases h⟩
def mc155 : MCode :=
 (.seq (.reg (sq 4 [bo 4 30 0] ++ sq 8 [.mv (.const (.slice none 0 0)), mb false])) (.seq (.draw (sq 11 [mv 1, mv 2, .slc (t0 11) 1 none (some (t0 12)) none, mv 3, mv 1, la 1 4, mv 1, mv 2, cf 86 [16, 17, 18], .slc (t0 15) 1 (some (t0 19)) none none, .bsl 21 22 1 [(t0 13), (t0 14), (t0 20)], cf 106 [21]] ++ sq 10 [mv 22]) [[], [], [0, 1], [], [], [], [], [], [5, 6, 7], [4, 8], [2, 3, 9], [10, 8], [11, 11, 0, 1, 2, 3, 4, 5, 6, 7, 8, 9, 10, 11]]) (.seq (.seq (.reg (sq 23 [mv 10, ln 23, bi .gtr 24 60])) (.cond (t0 25) (.seq (.reg (sq 8 [.mv (.const (.slice none 0 0)), mb false])) .ret) .skip)) (.seq (.reg (sq 26 [mv 10] ++ sq 8 [mv 26, mb true])) .ret))))
theorem fn155 : MFn Tryz.prog 155 mc155 27 [.tmp 8, .tmp 9] := ⟨_, Tryz.func155, by kernel_rfl, Tryz.ntmps155, by kernel_rfl⟩
noncomputable def F_impl_put (sig : (List Int)) (t : (List Int)) (at' : Int) (u : (List Int)) : Option ((List Int) × Bool) :=
 if 0 ≤ at' ∧ at' ≤ (t.length : Int) then
  (F_impl_endAt sig t at').bind fun r =>
  if 0 ≤ r ∧ r ≤ (t.length : Int) then
   (F_slices_Concat_int64_int64 [(t.take at'.toNat), u, (t.drop r.toNat)]).bind fun r_1 =>
   if (decide (60 < (r_1.length : Int))) = true then
    some ([], false)
   else
    some (r_1, true)
  else none
 else none
instance c_impl_put {sig : (List Int)} {t : (List Int)} {at' : Int} {u : (List Int)} : HasC (F_impl_put sig t at' u) fun rr => PFunN Tryz.prog 155 [D_impl_Sig sig, (slD 1 iD) t, iD at', (slD 1 iD) u] [(slD 1 iD) rr.1, bD rr.2] := ⟨@fun rr h => by
  delta F_impl_put at h
  refine fn155.pureLN (vcm_sound ?_)
  delta mc155
  refine stp ?_
  refine ndI h fun hp h => ?_
  refine dC h fun r hr h => ?_
  refine ndI h fun hp h => ?_
  refine dCo [] [(24, 22)] h fun r_1 hr_1 h => ?_
  exact aut⟩
def mc133 : MCode :=
 (.seq (.reg (sq 4 [bo 4 33 0] ++ sq 8 [.mv (.const (.slice none 0 0)), mb false])) (.seq (.draw (sq 14 [fa 0 4, la 1 14, fa 1 4, ld 16, mv 3, ix 2 17 18, fa 0 19, ld 20, fa 0 4, la 1 22, mv 1, mv 2, cf 89 [23, 24, 25], cf 60 [15, 21, 26]] ++ sq 13 [mv 27] ++ sq 28 [ex 13 0, ex 13 1] ++ sq 10 [.alloc 10 72 [.sl 0 (some true) []]] ++ s0 (sr 1 10 28) ++ sq 11 [mv 29]) [[], [0], [], [2], [], [3, 4], [5], [6], [], [8], [], [], [9, 10, 11], [1, 7, 12, 12], [13], [14], [14], [], [17, 15, 13, 0, 1, 2, 3, 4, 5, 6, 7, 8, 9, 10, 11, 12, 13, 14, 15, 17], [16, 18, 0, 1, 2, 3, 4, 5, 6, 7, 8, 9, 10, 11, 12, 13, 14, 15, 16, 17, 18]]) (.seq (.seq (.reg (sq 30 [mv 11, nt 30])) (.cond (t0 31) (.seq (.reg (sq 8 [.mv (.const (.slice none 0 0)), mb false])) .ret) .skip)) (.seq (.draw (sq 33 [la 1 10, fa 1 4, ld 34, mv 3, ix 2 35 36, fa 1 37, ld 38, cf 154 [33, 39]] ++ sq 32 [mv 40] ++ sq 41 [ex 32 0, ex 32 1] ++ sq 12 [mv 41] ++ sq 11 [mv 42]) [[], [], [1], [], [2, 3], [4], [5], [0, 6], [7], [8], [8], [9, 7, 0, 1, 2, 3, 4, 5, 6, 7, 8, 9], [10, 11, 0, 1, 2, 3, 4, 5, 6, 7, 8, 9, 10, 11]]) (.seq (.seq (.reg (sq 43 [mv 11, nt 43])) (.cond (t0 44) (.seq (.reg (sq 8 [.mv (.const (.slice none 0 0)), mb false])) .ret) .skip)) (.seq (.reg (sq 45 [fa 0 4, la 1 45, mv 1, mv 2, mv 12, cf 155 [46, 47, 48, 49], ex 50 0, ex 50 1] ++ sq 8 [mv 51, mv 52])) .ret))))))
theorem fn133 : MFn Tryz.prog 133 mc133 53 [.tmp 8, .tmp 9] := ⟨_, Tryz.func133, by kernel_rfl, Tryz.ntmps133, by kernel_rfl⟩
noncomputable def F_impl_step (sys : ((List Int) × (List ((List Int) × (List Int))))) (t : (List Int)) (at' : Int) (rule : Int) : Option ((List Int) × Bool) :=
 if 0 ≤ rule ∧ rule < (sys.2.length : Int) then
  (F_impl_subAt sys.1 t at').bind fun r =>
  (F_impl_match sys.1 ((sys.2.getD rule.toNat default).1) r).bind fun r_1 =>
  if r_1.2 = true then
   if 0 ≤ rule ∧ rule < (sys.2.length : Int) then
    (F_impl_fill r_1.1 ((sys.2.getD rule.toNat default).2)).bind fun r_2 =>
    if r_2.2 = true then
     (F_impl_put sys.1 t at' r_2.1).bind fun r_3 =>
     some r_3
    else
     some ([], false)
   else none
  else
   some ([], false)
 else none
instance c_impl_step {sys : ((List Int) × (List ((List Int) × (List Int))))} {t : (List Int)} {at' : Int} {rule : Int} : HasC (F_impl_step sys t at' rule) fun rr => PFunN Tryz.prog 133 [D_impl_System sys, (slD 1 iD) t, iD at', iD rule] [(slD 1 iD) rr.1, bD rr.2] := ⟨@fun rr h => by
  delta F_impl_step at h
  refine fn133.pureLN (vcm_sound ?_)
  delta mc133
  refine stp ?_
  exact aut⟩
def mc111 : MCode :=
 (.seq (.reg (sq 4 [bo 4 33 0] ++ sq 8 [.alloc 8 84 [.sl 0 (some true) [], .sl 0 (some true) []], mb false])) (.seq (.reg (sq 15 [mv 1, cf 95 [15], .build [.sl 0 (some true) [], .sl 0 (some true) []] [(0, 1, (t0 16))]] ++ sq 10 [.alloc 10 84 [.sl 0 (some true) [], .sl 0 (some true) []]] ++ s0 (sr 2 10 17))) (.block 0 (.loop (.block 1 (.seq (.reg (sq 18 [la 2 4, mv 1, mv 2, cf 131 [18, 19, 20]] ++ sq 11 [mv 21])) (.seq (.seq (.reg (sq 22 [mv 11, bi .lss 22 0])) (.cond (t0 23) (.seq (.reg (sq 24 [la 2 10] ++ s0 (sr 2 8 24) ++ sq 9 [mb true])) .ret) .skip)) (.seq (.seq (.reg (sq 25 [fa 1 10, ld 25, ln 26, mv 3, bn .eql 27 28])) (.cond (t0 29) (.seq (.reg (sq 30 [la 2 10] ++ s0 (sr 2 8 30) ++ sq 9 [mb false])) .ret) .skip)) (.seq (.reg (sq 31 [la 2 4, mv 1, mv 11, cf 132 [31, 32, 33]] ++ sq 12 [mv 34])) (.seq (.reg (sq 36 [la 2 4, mv 1, mv 11, mv 12, cf 133 [36, 37, 38, 39]] ++ sq 35 [mv 40] ++ sq 41 [ex 35 0, ex 35 1] ++ sq 13 [mv 41, mv 42])) (.seq (.seq (.reg (sq 43 [mv 14, nt 43])) (.cond (t0 44) (.seq (.reg (sq 45 [la 2 10] ++ s0 (sr 2 8 45) ++ sq 9 [mb false])) .ret) .skip)) (.seq (.reg (sq 46 [fa 1 10, ld 46, mv 11, mv 12, mv 13, .build [.lit (.int .i64 0), .lit (.int .i64 0), .sl 0 (some true) []] [(0, 1, (t0 48)), (1, 1, (t0 49)), (2, 1, (t0 50))], .bsl 52 118 3 [(t0 51)], ap 53 118 3 40 47 52, fa 1 10] ++ s0 (sr 1 54 53))) (.reg (sq 55 [mv 13] ++ sq 1 [mv 55]))))))))))))))
theorem fn111 : MFn Tryz.prog 111 mc111 56 [.cell 8 2 true, .tmp 9] := ⟨_, Tryz.func111, by kernel_rfl, Tryz.ntmps111, by kernel_rfl⟩
noncomputable def F_impl_walkBy_l1 (sys : ((List Int) × (List ((List Int) × (List Int))))) (strategy : Int) (fuel : Int) (r : (List Int)) : ((List Int) × (List (Int × Int × (List Int)))) → Option (((List Int) × (List (Int × Int × (List Int)))) ⊕ (((List Int) × (List (Int × Int × (List Int)))) × Bool))
 | (t_1, w) =>
  (F_impl_pick sys t_1 strategy).bind fun r_1 =>
  if (decide (r_1 < 0)) = true then
   Option.map Sum.inr (
    some ((r, w), true))
  else
   if ((w.length : Int) == fuel) = true then
    Option.map Sum.inr (
     some ((r, w), false))
   else
    (F_impl_ruleAt sys t_1 r_1).bind fun r_2 =>
    (F_impl_step sys t_1 r_1 r_2).bind fun r_3 =>
    if r_3.2 = true then
     if (w.length + 1) * 40 ≤ 140737488355328 then
      some (.inl (r_3.1, (w ++ [(r_1, r_2, r_3.1)])))
     else none
    else
     Option.map Sum.inr (
      some ((r, w), false))
noncomputable def F_impl_walkBy (sys : ((List Int) × (List ((List Int) × (List Int))))) (t : (List Int)) (strategy : Int) (fuel : Int) : Option (((List Int) × (List (Int × Int × (List Int)))) × Bool) :=
 (F_slices_Clone_int64_int64 t).bind fun r =>
 loopC (F_impl_walkBy_l1 sys strategy fuel r) (t, [])
instance c_impl_walkBy {sys : ((List Int) × (List ((List Int) × (List Int))))} {t : (List Int)} {strategy : Int} {fuel : Int} : HasC (F_impl_walkBy sys t strategy fuel) fun rr => PFunN Tryz.prog 111 [D_impl_System sys, (slD 1 iD) t, iD strategy, iD fuel] [D_impl_Walk rr.1, bD rr.2] := ⟨@fun rr h => by
  delta F_impl_walkBy at h
  refine fn111.pureLN (vcm_sound ?_)
  delta mc111
  refine stp ?_
  refine rC h fun r hr h => ?_
  refine m_loopF h [1, 9, 11, 12, 13, 14, 18, 19, 20, 21, 22, 23, 24, 25, 26, 27, 28, 29, 30, 31, 32, 33, 34, 35, 36, 37, 38, 39, 40, 41, 42, 43, 44, 45, 46, 47, 48, 49, 50, 51, 52, 53, 54, 55] (fun pp => [(1, .d (slD 1 iD pp.1))]) (fun pp => [(4, .obj 33 [.d (slD 1 iD sys.1), .d (slD 2 D_impl_Rule sys.2)]), (8, .obj 84 [.d (.sl 0 (some true) []), .d (.sl 0 (some true) [])]), (10, .obj 84 [.d (slD 1 iD r), .own 3 53 (List.map D_impl_Step pp.2)]), (53, .tok 118 3 pp.2.length)]) ?_ ?_
  · try dsimp only
    refine (Weak.thawCell 10 1 53 118 3 rfl rfl rfl).trans ?_
    exact wk
  rintro ⟨t_1, w⟩ t1 h hb1
  unfold F_impl_walkBy_l1 at h
  try dsimp only at h
  refine vcm_sound (stp ?_)
  refine rC h fun r_1 hr_1 h => ?_
  refine iF h fun hc h => ?_
  refine iF h fun hc h => ?_
  refine rC h fun r_2 hr_2 h => ?_
  refine rCN h fun r_3 hr_3 h => ?_
  refine iT h fun hc h => ?_
  refine ndI h fun hp h => ?_
  cases h
  refine ⟨_, rfl, ?_⟩
  refine (Weak.drop 52 (by omega)).trans ?_
  exact wk⟩
def mc70 : MCode :=
 (.seq (.reg (sq 4 [bo 4 33 0] ++ sq 8 [.alloc 8 84 [.sl 0 (some true) [], .sl 0 (some true) []], mb false])) (.seq (.seq (.reg (sq 10 [la 2 4, mv 1, mv 2, cf 110 [10, 11, 12], nt 13, mv 14] ++ sg 15 false 16 [mv 3, bi .lss 16 0] ++ sq 18 [po 15 17, mv 18] ++ sg 19 false 20 [mv 3, bi .gtr 20 60] ++ sq 22 [po 19 21])) (.cond (t0 22) (.seq (.reg (sq 23 [.build [.sl 0 (some true) [], .sl 0 (some true) []] []] ++ s0 (sr 2 8 23) ++ sq 9 [mb false])) .ret) .skip)) (.seq (.reg (sq 24 [la 2 4, mv 1, mv 2, mv 3, cf 111 [24, 25, 26, 27], ex 28 0, ex 28 1] ++ s0 (sr 2 8 29) ++ sq 9 [mv 30])) .ret)))
theorem fn70 : MFn Tryz.prog 70 mc70 31 [.cell 8 2 true, .tmp 9] := ⟨_, Tryz.func70, by kernel_rfl, Tryz.ntmps70, by kernel_rfl⟩
noncomputable def F_impl_WalkBy (sys : ((List Int) × (List ((List Int) × (List Int))))) (t : (List Int)) (strategy : Int) (fuel : Int) : Option (((List Int) × (List (Int × Int × (List Int)))) × Bool) :=
 (F_impl_strategyOk sys t strategy).bind fun r =>
 if r = true then
  if (decide (fuel < 0)) = true then
   some (([], []), false)
  else
   if (decide (60 < fuel)) = true then
    some (([], []), false)
   else
    (F_impl_walkBy sys t strategy fuel).bind fun r_1 =>
    some r_1
 else
  some (([], []), false)
instance c_impl_WalkBy {sys : ((List Int) × (List ((List Int) × (List Int))))} {t : (List Int)} {strategy : Int} {fuel : Int} : HasC (F_impl_WalkBy sys t strategy fuel) fun rr => PFunN Tryz.prog 70 [D_impl_System sys, (slD 1 iD) t, iD strategy, iD fuel] [D_impl_Walk rr.1, bD rr.2] := ⟨@fun rr h => by
  delta F_impl_WalkBy at h
  refine fn70.pureLN (vcm_sound ?_)
  delta mc70
  refine stp ?_
  exact aut⟩
def mc41 : MCode :=
 (.seq (.reg (sq 4 [bo 4 33 0] ++ sq 8 [mi 0])) (.seq (.reg (sq 12 [la 2 4, mv 1, mv 2, mv 3, cf 70 [12, 13, 14, 15]] ++ sq 11 [mv 16] ++ sq 17 [ex 11 0, ex 11 1] ++ sq 9 [.alloc 9 84 [.sl 0 (some true) [], .sl 0 (some true) []]] ++ s0 (sr 2 9 17) ++ sq 10 [mv 18])) (.seq (.seq (.reg (sq 19 [mv 10, nt 19])) (.cond (t0 20) (.seq (.reg (sq 8 [mi (-1)])) .ret) .skip)) (.seq (.reg (sq 21 [fa 1 9, ld 21, ln 22] ++ sq 8 [mv 23])) .ret))))
theorem fn41 : MFn Tryz.prog 41 mc41 24 [.tmp 8] := ⟨_, Tryz.func41, by kernel_rfl, Tryz.ntmps41, by kernel_rfl⟩
noncomputable def F_impl_CountBy (sys : ((List Int) × (List ((List Int) × (List Int))))) (t : (List Int)) (strategy : Int) (fuel : Int) : Option Int :=
 (F_impl_WalkBy sys t strategy fuel).bind fun r =>
 if r.2 = true then
  some (r.1.2.length : Int)
 else
  some (-1)
instance c_impl_CountBy {sys : ((List Int) × (List ((List Int) × (List Int))))} {t : (List Int)} {strategy : Int} {fuel : Int} : HasC (F_impl_CountBy sys t strategy fuel) fun rr => PFun Tryz.prog 41 [D_impl_System sys, (slD 1 iD) t, iD strategy, iD fuel] (iD rr) := ⟨@fun rr h => by
  delta F_impl_CountBy at h
  refine fn41.pureL (vcm_sound ?_)
  delta mc41
  refine stp ?_
  exact aut⟩
end Go.Proofs.YtcbfefbocpikoaaGreat
namespace Tm
def ari (a : List Int) (x : Int) : Nat := if x < 0 then 0 else (a.getD x.toNat 0).toNat
def okx (a : List Int) (x : Int) : Prop := -24 ≤ x ∧ x < a.length
instance (a : List Int) (x : Int) : Decidable (okx a x) := by unfold okx; infer_instance
def skip (a : List Int) : List Int → Nat → Option (List Int)
  | t, 0 => some t
  | [], _ + 1 => none
  | x :: t, k + 1 => if okx a x then skip a t (k + ari a x) else none
def Wf (a : List Int) (k : Nat) (t : List Int) : Prop := skip a t k = some []
instance (a : List Int) (k : Nat) (t : List Int) : Decidable (Wf a k t) := by unfold Wf; infer_instance
theorem skip_zero (a t : List Int) : skip a t 0 = some t := by cases t <;> simp [skip]
theorem skip_cons (a t : List Int) (x : Int) (k : Nat) : skip a (x :: t) (k + 1) = if okx a x then skip a t (k + ari a x) else none := by simp [skip]
theorem skip_nil (a : List Int) (k : Nat) : skip a [] (k + 1) = none := by simp [skip]
theorem skip_app {a : List Int} (s : List Int) : ∀ {t r : List Int} {k : Nat}, skip a t k = some r → skip a (t ++ s) k = some (r ++ s)
  | t, r, 0, h => by rw [skip_zero] at h ⊢; cases h; rfl
  | [], r, k + 1, h => by simp [skip] at h
  | x :: t, r, k + 1, h => by
    rw [List.cons_append]
    rw [skip_cons] at h ⊢
    split at h
    · rename_i hx; rw [if_pos hx]; exact skip_app s h
    · cases h
theorem skip_add {a : List Int} (j : Nat) : ∀ {t : List Int} {k : Nat}, skip a t (k + j) = (skip a t k).bind fun r => skip a r j
  | t, 0 => by simp [skip_zero]
  | [], k + 1 => by rw [show k + 1 + j = (k + j) + 1 by omega]; simp [skip]
  | x :: t, k + 1 => by
    rw [show k + 1 + j = (k + j) + 1 by omega, skip_cons, skip_cons]
    split
    · rw [show k + j + ari a x = (k + ari a x) + j by omega]; exact skip_add j
    · rfl
theorem skip_split {a : List Int} : ∀ {t r : List Int} {k : Nat}, skip a t k = some r → ∃ u, t = u ++ r ∧ Wf a k u
  | t, r, 0, h => by rw [skip_zero] at h; cases h; exact ⟨[], rfl, skip_zero _ _⟩
  | [], r, k + 1, h => by simp [skip] at h
  | x :: t, r, k + 1, h => by
    rw [skip_cons] at h
    split at h
    · rename_i hx
      obtain ⟨u, rfl, h2⟩ := skip_split h
      exact ⟨x :: u, rfl, by unfold Wf; rw [skip_cons, if_pos hx]; exact h2⟩
    · cases h
theorem Wf.skip {a u : List Int} {k : Nat} (h : Wf a k u) (s : List Int) : skip a (u ++ s) k = some s := skip_app s h
theorem Wf.app {a u v : List Int} {k j : Nat} (h : Wf a k u) (h' : Wf a j v) : Wf a (k + j) (u ++ v) := by
  unfold Wf; rw [skip_add, h.skip]; exact h'
theorem Wf.nil {a : List Int} : Wf a 0 [] := skip_zero _ _
theorem Wf.zero {a t : List Int} (h : Wf a 0 t) : t = [] := by unfold Wf at h; rw [skip_zero] at h; exact Option.some.inj h
theorem Wf.cons_iff {a t : List Int} {x : Int} {k : Nat} : Wf a (k + 1) (x :: t) ↔ okx a x ∧ Wf a (k + ari a x) t := by
  unfold Wf; rw [skip_cons]; split <;> simp_all
theorem Wf.pos {a t : List Int} {k : Nat} (h : Wf a (k + 1) t) : ∃ x r, t = x :: r ∧ okx a x ∧ Wf a (k + ari a x) r := by
  cases t with
  | nil => simp [Wf, Tm.skip] at h
  | cons x r => exact ⟨x, r, rfl, Wf.cons_iff.1 h⟩
theorem Wf.split {a t : List Int} {k j : Nat} (h : Wf a (k + j) t) : ∃ u v, t = u ++ v ∧ Wf a k u ∧ Wf a j v := by
  unfold Wf at h; rw [skip_add] at h
  obtain ⟨r, h1, h2⟩ := Option.bind_eq_some_iff.1 h
  obtain ⟨u, rfl, h3⟩ := skip_split h1
  exact ⟨u, r, rfl, h3, h2⟩
theorem Wf.uniq {a u u' v v' : List Int} {k : Nat} (h : Wf a k u) (h' : Wf a k u') (e : u ++ v = u' ++ v') : u = u' ∧ v = v' := by
  have h1 := h.skip v
  have h2 := h'.skip v'
  rw [e, h2] at h1
  cases Option.some.inj h1
  exact ⟨List.append_cancel_right e, rfl⟩
theorem Wf.all {a : List Int} : ∀ {t : List Int} {k : Nat}, Wf a k t → ∀ x ∈ t, okx a x
  | [], _, _ => by simp
  | y :: t, 0, h => by have := h.zero; cases this
  | y :: t, k + 1, h => by
    obtain ⟨h1, h2⟩ := Wf.cons_iff.1 h
    intro x hx
    rcases List.mem_cons.1 hx with rfl | hx
    · exact h1
    · exact h2.all x hx
theorem Wf.len {a : List Int} : ∀ {t : List Int} {k : Nat}, Wf a k t → k ≤ t.length
  | t, 0, _ => by omega
  | [], k + 1, h => by simp [Wf, Tm.skip] at h
  | y :: t, k + 1, h => by
    obtain ⟨h1, h2⟩ := Wf.cons_iff.1 h
    have := h2.len
    simp; omega
theorem Wf.place {a : List Int} : ∀ {t : List Int} {k i : Nat}, Wf a k t → i < t.length → ∃ p u s, t = p ++ (u ++ s) ∧ p.length = i ∧ Wf a 1 u
  | [], _, _, _, hi => by simp at hi
  | y :: t, 0, _, h, _ => by have := h.zero; cases this
  | y :: t, k + 1, 0, h, _ => by
    rw [show k + 1 = 1 + k by omega] at h
    obtain ⟨u, v, e, h1, _⟩ := h.split
    exact ⟨[], u, v, e, rfl, h1⟩
  | y :: t, k + 1, i + 1, h, hi => by
    obtain ⟨p, u, s, rfl, h2, h3⟩ := (Wf.cons_iff.1 h).2.place (i := i) (by simpa using hi)
    exact ⟨y :: p, u, s, rfl, by simp [h2], h3⟩
theorem Wf.put {a u v s : List Int} (hu : Wf a 1 u) (hv : Wf a 1 v) : ∀ {p : List Int} {k : Nat}, Wf a k (p ++ (u ++ s)) → Wf a k (p ++ (v ++ s))
  | [], 0, h => by
    have := h.zero
    have := hu.len
    simp_all
  | [], k + 1, h => by
    rw [List.nil_append] at h ⊢
    rw [show k + 1 = 1 + k by omega] at h ⊢
    obtain ⟨u', v', e, h1, h2⟩ := h.split
    obtain ⟨rfl, rfl⟩ := hu.uniq h1 e
    exact hv.app h2
  | y :: p, 0, h => by have := h.zero; cases this
  | y :: p, k + 1, h => by
    rw [List.cons_append] at h ⊢
    obtain ⟨h1, h2⟩ := Wf.cons_iff.1 h
    exact Wf.cons_iff.2 ⟨h1, Wf.put hu hv h2⟩
def sub (σ : Int → List Int) (t : List Int) : List Int := t.flatMap fun x => if x < 0 then σ x else [x]
theorem sub_cons (σ : Int → List Int) (x : Int) (t : List Int) : sub σ (x :: t) = (if x < 0 then σ x else [x]) ++ sub σ t := by simp [sub]
theorem sub_app (σ : Int → List Int) (s t : List Int) : sub σ (s ++ t) = sub σ s ++ sub σ t := by simp [sub]
theorem sub_congr {σ τ : Int → List Int} {t : List Int} (h : ∀ x ∈ t, x < 0 → σ x = τ x) : sub σ t = sub τ t := by
  induction t with
  | nil => rfl
  | cons x t ih =>
    rw [sub_cons, sub_cons, ih fun y hy => h y (by simp [hy])]
    by_cases hx : x < 0
    · rw [if_pos hx, if_pos hx, h x (by simp) hx]
    · rw [if_neg hx, if_neg hx]
theorem Wf.sub {a : List Int} {σ : Int → List Int} : ∀ {t : List Int} {k : Nat}, Wf a k t → (∀ x ∈ t, x < 0 → Wf a 1 (σ x)) → Wf a k (Tm.sub σ t)
  | [], k, h, _ => by simpa [Tm.sub] using h
  | y :: t, 0, h, _ => by have := h.zero; cases this
  | y :: t, k + 1, h, hs => by
    obtain ⟨h1, h2⟩ := Wf.cons_iff.1 h
    rw [sub_cons]
    have ih := h2.sub fun x hx => hs x (by simp [hx])
    by_cases hy : y < 0
    · rw [if_pos hy, show k + 1 = 1 + k by omega]
      refine (hs y (by simp) hy).app ?_
      simpa [ari, hy] using ih
    · rw [if_neg hy]
      exact Wf.cons_iff.2 ⟨h1, ih⟩
end Tm
namespace Tm
abbrev Bd := List (List Int)
def bget (b : Bd) (n : Int) : List Int := b.getD (-1 - n).toNat []
def bset (b : Bd) (n : Int) (u : List Int) : Bd := b.set (-1 - n).toNat u
def mat (a : List Int) : List Int → List Int → Bd → Option Bd
  | [], _, b => some b
  | n :: p, t, b =>
    if n < 0 then match skip a t 1 with
      | none => none
      | some r =>
        let u := t.take (t.length - r.length)
        if bget b n = [] then mat a p r (bset b n u) else if bget b n = u then mat a p r b else none
    else match t with
      | [] => none
      | y :: t => if y = n then mat a p t b else none
theorem mat_nil (a t : List Int) (b : Bd) : mat a [] t b = some b := by simp [mat]
theorem Wf.ne {a u : List Int} (h : Wf a 1 u) : u ≠ [] := by have := h.len; intro e; subst e; simp at this
theorem mat_sym {a p t : List Int} {n y : Int} {b : Bd} (hn : ¬ n < 0) : mat a (n :: p) (y :: t) b = if y = n then mat a p t b else none := by simp [mat, hn]
theorem mat_var {a p u r : List Int} {n : Int} {b : Bd} (hn : n < 0) (hu : Wf a 1 u) : mat a (n :: p) (u ++ r) b =
    if bget b n = [] then mat a p r (bset b n u) else if bget b n = u then mat a p r b else none := by
  simp [mat, hn, hu.skip]
theorem bget_bset {b : Bd} {n m : Int} {u : List Int} (hn : n < 0) (hl : -1 - n < b.length) (hm : m < 0) : bget (bset b n u) m = if m = n then u else bget b m := by
  unfold bget bset
  rw [List.getD_eq_getElem?_getD, List.getD_eq_getElem?_getD, List.getElem?_set]
  by_cases h : m = n
  · subst h
    rw [if_pos rfl, if_pos rfl, if_pos (by omega)]; rfl
  · rw [if_neg h, if_neg (by omega)]
theorem mat_sound {a : List Int} : ∀ {p t : List Int} {b b' : Bd} {k : Nat}, Wf a k p → Wf a k t → b.length = 24 → mat a p t b = some b' →
    t = sub (bget b') p ∧ b'.length = 24 ∧ (∀ n, n < 0 → bget b n ≠ [] → bget b' n = bget b n) ∧ (∀ n ∈ p, n < 0 → Wf a 1 (bget b' n) ∨ bget b n = bget b' n ∧ bget b n ≠ []) ∧
    (∀ n, n < 0 → n ∉ p → bget b' n = bget b n)
  | [], t, b, b', k, hp, ht, hb, h => by
    rw [mat_nil] at h
    cases h
    cases k with
    | zero => have := ht.zero; subst this; exact ⟨rfl, hb, fun _ _ _ => rfl, by simp, fun _ _ _ => rfl⟩
    | succ k => simp [Wf, Tm.skip] at hp
  | n :: p, t, b, b', 0, hp, ht, hb, h => by have := hp.zero; cases this
  | n :: p, t, b, b', k + 1, hp, ht, hb, h => by
    obtain ⟨hx, hp⟩ := Wf.cons_iff.1 hp
    by_cases hn : n < 0
    · rw [show k + 1 = 1 + k by omega] at ht
      obtain ⟨u, r, rfl, hu, hr⟩ := ht.split
      rw [mat_var hn hu] at h
      have ha : ari a n = 0 := by simp [ari, hn]
      rw [ha, Nat.add_zero] at hp
      have hl : -1 - n < b.length := by have := hx.1; omega
      split at h
      · rename_i h0
        obtain ⟨h1, h2, h3, h4, h5⟩ := mat_sound hp hr (by simpa [bset] using hb) h
        have hbn : bget b' n = u := by
          rw [h3 n hn (by rw [bget_bset hn hl hn, if_pos rfl]; exact hu.ne), bget_bset hn hl hn, if_pos rfl]
        refine ⟨by rw [sub_cons, if_pos hn, hbn, ← h1], h2, fun m hm hne => ?_, fun m hm hm0 => ?_, fun m hm hmp => ?_⟩
        · by_cases hmn : m = n
          · subst hmn; exact absurd h0 hne
          · have := bget_bset (u := u) hn hl hm
            rw [if_neg hmn] at this
            rw [h3 m hm (by rw [this]; exact hne), this]
        · by_cases hmn : m = n
          · subst hmn; rw [hbn]; exact .inl hu
          · have := bget_bset (u := u) hn hl hm0
            rw [if_neg hmn] at this
            rcases List.mem_cons.1 hm with e | hm
            · exact absurd e hmn
            · rw [← this]; exact h4 m hm hm0
        · have hmn : m ≠ n := fun e => hmp (by simp [e])
          have := bget_bset (u := u) hn hl hm
          rw [if_neg hmn] at this
          rw [h5 m hm fun hx => hmp (by simp [hx]), this]
      · rename_i h0
        split at h
        · rename_i h00
          obtain ⟨h1, h2, h3, h4, h5⟩ := mat_sound hp hr hb h
          have hbn : bget b' n = u := by rw [h3 n hn h0, h00]
          refine ⟨by rw [sub_cons, if_pos hn, hbn, ← h1], h2, h3, fun m hm hm0 => ?_, fun m hm hmp => ?_⟩
          · by_cases hmn : m = n
            · subst hmn; rw [hbn]; exact .inl hu
            · rcases List.mem_cons.1 hm with e | hm
              · exact absurd e hmn
              · exact h4 m hm hm0
          · exact h5 m hm fun hx => hmp (by simp [hx])
        · cases h
    · obtain ⟨y, t, rfl, hy, ht⟩ := ht.pos
      rw [mat_sym hn] at h
      split at h
      · rename_i e
        subst e
        obtain ⟨h1, h2, h3, h4, h5⟩ := mat_sound hp ht hb h
        refine ⟨by rw [sub_cons, if_neg hn, List.singleton_append, ← h1], h2, h3, fun m hm hm0 => ?_, fun m hm hmp => ?_⟩
        · rcases List.mem_cons.1 hm with e | hm
          · omega
          · exact h4 m hm hm0
        · exact h5 m hm fun hx => hmp (by simp [hx])
      · cases h
theorem mat_complete {a : List Int} {σ : Int → List Int} : ∀ {p : List Int} {b : Bd} {k : Nat}, Wf a k p → b.length = 24 → (∀ n ∈ p, n < 0 → Wf a 1 (σ n)) → (∀ n ∈ p, n < 0 → bget b n = [] ∨ bget b n = σ n) →
    ∃ b', mat a p (sub σ p) b = some b' ∧ b'.length = 24 ∧ (∀ n ∈ p, n < 0 → bget b' n = σ n) ∧ (∀ n, n < 0 → n ∉ p → bget b' n = bget b n)
  | [], b, k, hp, hb, hs, hc => ⟨b, mat_nil _ _ _, hb, by simp, fun _ _ _ => rfl⟩
  | n :: p, b, 0, hp, hb, hs, hc => by have := hp.zero; cases this
  | n :: p, b, k + 1, hp, hb, hs, hc => by
    obtain ⟨hx, hp⟩ := Wf.cons_iff.1 hp
    by_cases hn : n < 0
    · have hu := hs n (by simp) hn
      have ha : ari a n = 0 := by simp [ari, hn]
      rw [ha, Nat.add_zero] at hp
      have hl : -1 - n < b.length := by have := hx.1; omega
      rw [sub_cons, if_pos hn, mat_var hn hu]
      by_cases h0 : bget b n = []
      · rw [if_pos h0]
        have hg : ∀ m, m < 0 → bget (bset b n (σ n)) m = if m = n then σ n else bget b m := fun m hm => bget_bset hn hl hm
        obtain ⟨b', h1, h2, h3, h4⟩ := mat_complete (σ := σ) (b := bset b n (σ n)) hp (by simpa [bset] using hb) (fun m hm hm0 => hs m (by simp [hm]) hm0) fun m hm hm0 => by
          rw [hg m hm0]
          by_cases hmn : m = n
          · subst hmn; rw [if_pos rfl]; exact .inr rfl
          · rw [if_neg hmn]; exact hc m (by simp [hm]) hm0
        refine ⟨b', h1, h2, fun m hm hm0 => ?_, fun m hm hmp => ?_⟩
        · by_cases hmp : m ∈ p
          · exact h3 m hmp hm0
          · rcases List.mem_cons.1 hm with rfl | hm
            · rw [h4 m hm0 hmp, hg m hm0, if_pos rfl]
            · exact absurd hm hmp
        · have hmn : m ≠ n := fun e => hmp (by simp [e])
          rw [h4 m hm fun hx => hmp (by simp [hx]), hg m hm, if_neg hmn]
      · have hbn : bget b n = σ n := (hc n (by simp) hn).resolve_left h0
        rw [if_neg h0, if_pos hbn]
        obtain ⟨b', h1, h2, h3, h4⟩ := mat_complete hp hb (fun m hm hm0 => hs m (by simp [hm]) hm0) fun m hm hm0 => hc m (by simp [hm]) hm0
        refine ⟨b', h1, h2, fun m hm hm0 => ?_, fun m hm hmp => h4 m hm fun hx => hmp (by simp [hx])⟩
        by_cases hmp : m ∈ p
        · exact h3 m hmp hm0
        · rcases List.mem_cons.1 hm with rfl | hm
          · rw [h4 m hm0 hmp, hbn]
          · exact absurd hm hmp
    · rw [sub_cons, if_neg hn, List.singleton_append, mat_sym hn, if_pos rfl]
      obtain ⟨b', h1, h2, h3, h4⟩ := mat_complete hp hb (fun m hm hm0 => hs m (by simp [hm]) hm0) fun m hm hm0 => hc m (by simp [hm]) hm0
      refine ⟨b', h1, h2, fun m hm hm0 => ?_, fun m hm hmp => h4 m hm fun hx => hmp (by simp [hx])⟩
      rcases List.mem_cons.1 hm with rfl | hm
      · exact absurd hm0 hn
      · exact h3 m hm hm0
end Tm
namespace Tm
end Tm
namespace Tm
end Tm
namespace Tm
def none24 : Bd := List.replicate 24 []
theorem bget_none (n : Int) : bget none24 n = [] := by
  unfold bget none24
  rw [List.getD_eq_getElem?_getD, List.getElem?_replicate]
  split <;> rfl
def Mv (a f o t t' : List Int) (i : Nat) : Prop := ∃ p s σ, p.length = i ∧ t = p ++ (sub σ f ++ s) ∧ t' = p ++ (sub σ o ++ s) ∧ ∀ x, x < 0 → Wf a 1 (σ x)
theorem Mv.wf {a f o t t' : List Int} {i : Nat} (h : Mv a f o t t' i) (hf : Wf a 1 f) (ho : Wf a 1 o) (ht : Wf a 1 t) : Wf a 1 t' := by
  obtain ⟨p, s, σ, h1, rfl, rfl, h4⟩ := h
  exact Wf.put (hf.sub fun x _ hx => h4 x hx) (ho.sub fun x _ hx => h4 x hx) ht
theorem Wf.var {a : List Int} : Wf a 1 [-1] := Wf.cons_iff.2 ⟨⟨by omega, by omega⟩, by simp [ari]; exact Wf.nil⟩
theorem mv_of_mat {a f o p s u u' : List Int} {b b' : Bd} (hf : Wf a 1 f) (ho : Wf a 1 o) (hu : Wf a 1 u) (hu' : Wf a 1 u') (h1 : mat a f u none24 = some b) (h2 : mat a o u' b = some b') :
    Mv a f o (p ++ (u ++ s)) (p ++ (u' ++ s)) p.length := by
  obtain ⟨e1, l1, k1, w1, n1⟩ := mat_sound hf hu (by simp [none24]) h1
  obtain ⟨e2, l2, k2, w2, n2⟩ := mat_sound ho hu' l1 h2
  have hw1 : ∀ n ∈ f, n < 0 → Wf a 1 (bget b n) := fun n hn h0 => by
    rcases w1 n hn h0 with h | h
    · exact h
    · exact absurd (bget_none n) h.2
  let σ : Int → List Int := fun x => if Wf a 1 (bget b' x) then bget b' x else [-1]
  have hσ : ∀ x, x < 0 → Wf a 1 (σ x) := fun x _ => by
    by_cases h : Wf a 1 (bget b' x)
    · simp only [σ, if_pos h]; exact h
    · simp only [σ, if_neg h]; exact Wf.var
  have hfx : ∀ n ∈ f, n < 0 → σ n = bget b n := fun n hn h0 => by
    have h3 := hw1 n hn h0
    have h4 := k2 n h0 h3.ne
    simp only [σ, h4, if_pos h3]
  have hox : ∀ n ∈ o, n < 0 → σ n = bget b' n := fun n hn h0 => by
    have : Wf a 1 (bget b' n) := by
      rcases w2 n hn h0 with h | ⟨h, hne⟩
      · exact h
      · by_cases hn' : n ∈ f
        · rw [← h]; exact hw1 n hn' h0
        · exact absurd (by rw [n1 n h0 hn', bget_none]) hne
    simp only [σ, if_pos this]
  refine ⟨p, s, σ, rfl, ?_, ?_, hσ⟩
  · rw [sub_congr hfx, ← e1]
  · rw [sub_congr hox, ← e2]
theorem mat_of_mv {a f o p s : List Int} {σ : Int → List Int} (hf : Wf a 1 f) (ho : Wf a 1 o) (hσ : ∀ x, x < 0 → Wf a 1 (σ x)) :
    ∃ b b', mat a f (sub σ f) none24 = some b ∧ mat a o (sub σ o) b = some b' := by
  obtain ⟨b, h1, h2, h3, h4⟩ := mat_complete (σ := σ) (b := none24) hf (by simp [none24]) (fun n _ hn => hσ n hn) fun n _ _ => .inl (bget_none n)
  obtain ⟨b', h5, _⟩ := mat_complete (σ := σ) (b := b) ho h2 (fun n _ hn => hσ n hn) fun n _ hn => by
    by_cases hnf : n ∈ f
    · exact .inr (h3 n hnf hn)
    · exact .inl (by rw [h4 n hn hnf, bget_none])
  exact ⟨b, b', h1, h5⟩
def at' (a t : List Int) (i : Nat) : List Int := match skip a (t.drop i) 1 with
  | some r => (t.drop i).take ((t.drop i).length - r.length)
  | none => []
theorem at_eq {a p u s : List Int} (hu : Wf a 1 u) : at' a (p ++ (u ++ s)) p.length = u := by
  unfold at'
  rw [List.drop_left, hu.skip]
  simp
def putp (a t : List Int) (i : Nat) (v : List Int) : List Int := t.take i ++ (v ++ t.drop (i + (at' a t i).length))
theorem putp_eq {a p u s v : List Int} (hu : Wf a 1 u) : putp a (p ++ (u ++ s)) p.length v = p ++ (v ++ s) := by
  unfold putp
  rw [at_eq hu, List.take_left, ← List.drop_drop, List.drop_left, List.drop_left]
def mvB (a f o t t' : List Int) (i : Nat) : Bool := putp a t i (at' a t' i) == t' && ((mat a f (at' a t i) none24).bind fun b => mat a o (at' a t' i) b).isSome
theorem mvB_iff {a f o t t' : List Int} {i : Nat} (hf : Wf a 1 f) (ho : Wf a 1 o) (ht : Wf a 1 t) (ht' : Wf a 1 t') (hi : i < t.length) (hi' : i < t'.length) : mvB a f o t t' i = true ↔ Mv a f o t t' i := by
  constructor
  · intro h
    simp only [mvB, Bool.and_eq_true, beq_iff_eq] at h
    obtain ⟨h1, h2⟩ := h
    obtain ⟨p, u, s, rfl, rfl, hu⟩ := ht.place hi
    obtain ⟨p', u', s', rfl, hp, hu'⟩ := ht'.place hi'
    rw [← hp, at_eq hu', hp, putp_eq hu] at h1
    rw [← hp, at_eq hu', hp, at_eq hu] at h2
    obtain ⟨b, hb⟩ := Option.isSome_iff_exists.1 h2
    obtain ⟨b0, h3, h4⟩ := Option.bind_eq_some_iff.1 hb
    rw [← h1]
    exact mv_of_mat hf ho hu hu' h3 h4
  · rintro ⟨p, s, σ, rfl, rfl, rfl, hσ⟩
    have hu : Wf a 1 (sub σ f) := hf.sub fun x _ hx => hσ x hx
    have hu' : Wf a 1 (sub σ o) := ho.sub fun x _ hx => hσ x hx
    simp only [mvB, at_eq hu, at_eq hu', putp_eq hu, beq_self_eq_true, Bool.true_and]
    obtain ⟨b, b', h1, h2⟩ := mat_of_mv (p := p) (s := s) hf ho hσ
    rw [h1, Option.bind_some, h2]; rfl
def sig (b : Bd) (n : Int) : List Int := if bget b n = [] then [n] else bget b n
def stepp (a l r t : List Int) (i : Nat) : Option (List Int) := (mat a l (at' a t i) none24).bind fun b =>
  if (sub (sig b) r).length ≤ 60 ∧ (putp a t i (sub (sig b) r)).length ≤ 60 then some (putp a t i (sub (sig b) r)) else none
theorem stepp_mv {a l r t t' : List Int} {i : Nat} (hl : Wf a 1 l) (hr : Wf a 1 r) (ht : Wf a 1 t) (hi : i < t.length) (hv : ∀ n ∈ r, n < 0 → n ∈ l) (h : stepp a l r t i = some t') :
    Mv a l r t t' i ∧ t'.length ≤ 60 := by
  unfold stepp at h
  obtain ⟨b, h1, h2⟩ := Option.bind_eq_some_iff.1 h
  split at h2
  · rename_i hc
    cases h2
    refine ⟨?_, hc.2⟩
    obtain ⟨p, u, s, rfl, rfl, hu⟩ := ht.place hi
    rw [at_eq hu] at h1
    rw [putp_eq hu]
    obtain ⟨e1, l1, k1, w1, n1⟩ := mat_sound hl hu (by simp [none24]) h1
    have hw1 : ∀ n ∈ l, n < 0 → Wf a 1 (bget b n) := fun n hn h0 => by
      rcases w1 n hn h0 with h | h
      · exact h
      · exact absurd (bget_none n) h.2
    let σ : Int → List Int := fun x => if Wf a 1 (bget b x) then bget b x else [-1]
    have hσ : ∀ x, x < 0 → Wf a 1 (σ x) := fun x _ => by
      by_cases h : Wf a 1 (bget b x)
      · simp only [σ, if_pos h]; exact h
      · simp only [σ, if_neg h]; exact Wf.var
    have hx : ∀ n ∈ l, n < 0 → σ n = bget b n := fun n hn h0 => by simp only [σ, if_pos (hw1 n hn h0)]
    refine ⟨p, s, σ, rfl, ?_, ?_, hσ⟩
    · rw [sub_congr hx, ← e1]
    · rw [sub_congr fun n hn h0 => ?_]
      rw [hx n (hv n hn h0) h0]
      unfold sig
      rw [if_neg (hw1 n (hv n hn h0) h0).ne]
  · cases h2
end Tm
namespace Go.Proofs.YtcbfefbocpikoaaGreat
open Go Abx Tm
theorem w64 {n : Int} (h1 : -9223372036854775808 ≤ n) (h2 : n < 9223372036854775808) : IntKind.i64.wrap n = n := by
  rw [wrap_i64 h1 h2]
theorem getD_get {α : Type} [Inhabited α] {xs : List α} {i : Nat} (h : i < xs.length) : xs.getD i default = xs[i] := by simp [List.getD_eq_getElem?_getD, List.getElem?_eq_getElem h]
theorem getD_mem {α : Type} [Inhabited α] {xs : List α} {i : Nat} (h : i < xs.length) : xs.getD i default ∈ xs := by rw [getD_get h]; exact List.getElem_mem h
theorem loop_all {α : Type} [Inhabited α] {xs : List α} {p : α → Bool} {f : Int → Option (Int ⊕ Bool)}
    (h : ∀ (i : Nat) (x : α), i < xs.length → (i : Int) < xs.length → x ∈ xs → xs.getD i default = x → f i = some (if p x = true then .inl ((i : Int) + 1) else .inr false)) (he : f xs.length = some (.inr true)) : loopC f 0 = some (xs.all p) := by
  have key : ∀ k i : Nat, i + k = xs.length → loopC f (i : Int) = some ((xs.drop i).all p) := by
    intro k
    induction k with
    | zero =>
      intro i hi
      obtain rfl : i = xs.length := by omega
      rw [loopC_inr he]; simp
    | succ k ih =>
      intro i hi
      have hlt : i < xs.length := by omega
      have e := h i _ hlt (by omega) (List.getElem_mem hlt) (getD_get hlt)
      rw [List.drop_eq_getElem_cons hlt, List.all_cons]
      cases hp : p xs[i] with
      | true =>
        rw [hp, if_pos rfl] at e
        rw [loopC_inl e]
        have := ih (i + 1) (by omega)
        rw [show ((i : Int) + 1) = ((i + 1 : Nat) : Int) by omega, this]; simp
      | false =>
        rw [hp] at e
        simp only [Bool.false_eq_true, if_false] at e
        rw [loopC_inr e]; simp
  simpa using key xs.length 0 (by omega)
theorem loop_any {α β : Type} [Inhabited α] {xs : List α} {p : α → Bool} {f : Int → Option (Int ⊕ β)} {y n : β}
    (h : ∀ (i : Nat) (x : α), i < xs.length → (i : Int) < xs.length → x ∈ xs → xs.getD i default = x → f i = some (if p x = true then .inr y else .inl ((i : Int) + 1))) (he : f xs.length = some (.inr n)) :
    loopC f 0 = some (if xs.any p = true then y else n) := by
  have key : ∀ k i : Nat, i + k = xs.length → loopC f (i : Int) = some (if (xs.drop i).any p = true then y else n) := by
    intro k
    induction k with
    | zero =>
      intro i hi
      obtain rfl : i = xs.length := by omega
      rw [loopC_inr he]; simp
    | succ k ih =>
      intro i hi
      have hlt : i < xs.length := by omega
      have e := h i _ hlt (by omega) (List.getElem_mem hlt) (getD_get hlt)
      rw [List.drop_eq_getElem_cons hlt, List.any_cons]
      cases hp : p xs[i] with
      | false =>
        rw [hp] at e
        simp only [Bool.false_eq_true, if_false] at e
        rw [loopC_inl e]
        have := ih (i + 1) (by omega)
        rw [show ((i : Int) + 1) = ((i + 1 : Nat) : Int) by omega, this]; simp
      | true =>
        rw [hp, if_pos rfl] at e
        rw [loopC_inr e]; simp
  simpa using key xs.length 0 (by omega)
abbrev Small {α : Type} (xs : List α) : Prop := xs.length < 1099511627776
def arOk (n : Int) : Bool := decide (0 ≤ n) && decide (n ≤ 3)
def sigOk (a : List Int) : Bool := decide (1 ≤ a.length) && decide (a.length ≤ 8) && a.all arOk
theorem sigOk_iff {a : List Int} : sigOk a = true ↔ 1 ≤ a.length ∧ a.length ≤ 8 ∧ ∀ n ∈ a, 0 ≤ n ∧ n ≤ 3 := by simp [sigOk, arOk, and_assoc]
theorem F_spec_l1In_eq (x lo hi : Int) : F_spec_l1In x lo hi = some (decide (lo ≤ x) && decide (x ≤ hi)) := by
  unfold F_spec_l1In
  by_cases h1 : lo ≤ x <;> by_cases h2 : x ≤ hi <;> simp [h1, h2]
theorem F_impl_SigOk_eq (a : List Int) : F_impl_SigOk a = some (sigOk a) := by
  unfold F_impl_SigOk
  by_cases h1 : (a.length : Int) < 1
  · have : ¬ 1 ≤ a.length := by omega
    simp [h1, sigOk, this]
  · by_cases h2 : 8 < (a.length : Int)
    · have : ¬ a.length ≤ 8 := by omega
      simp [h1, h2, sigOk, this]
    · have e1 : 1 ≤ a.length := by omega
      have e2 : a.length ≤ 8 := by omega
      simp only [h1, h2, decide_false, Bool.false_eq_true, if_false, sigOk, e1, e2, decide_true, Bool.true_and]
      refine loop_all (fun i x hi hi' _ hx => ?_) (by simp [F_impl_SigOk_l1])
      have hw : IntKind.i64.wrap ((i : Int) + 1) = i + 1 := w64 (by omega) (by omega)
      simp only [F_impl_SigOk_l1, hi', decide_true, if_true, Int.toNat_natCast, hw, show (0 : Int) ≤ i by omega, and_self, arOk, hx]
      by_cases c1 : x < 0
      · simp [c1, show ¬ 0 ≤ x by omega]
      · by_cases c2 : 3 < x
        · simp [c1, c2, show ¬ x ≤ 3 by omega]
        · simp [c1, c2, show 0 ≤ x by omega, show x ≤ 3 by omega]
theorem F_spec_SigOk_eq (a : List Int) : F_spec_SigOk a = some (sigOk a) := by
  unfold F_spec_SigOk
  simp only [F_spec_l1In_eq, Option.bind_some]
  by_cases h : 1 ≤ a.length ∧ a.length ≤ 8
  · have e1 : (1 : Int) ≤ a.length := by omega
    have e2 : (a.length : Int) ≤ 8 := by omega
    simp only [e1, e2, decide_true, Bool.and_self, if_true, sigOk, h.1, h.2, Bool.true_and]
    refine loop_all (fun i x hi hi' _ hx => ?_) (by simp [F_spec_SigOk_l1])
    have hw : IntKind.i64.wrap ((i : Int) + 1) = i + 1 := w64 (by omega) (by omega)
    simp only [F_spec_SigOk_l1, hi', decide_true, if_true, Int.toNat_natCast, hw, show (0 : Int) ≤ i by omega, and_self, arOk, hx, F_spec_l1In_eq, Option.bind_some]
    by_cases h3 : 0 ≤ x <;> by_cases h4 : x ≤ 3 <;> simp [h3, h4]
  · have : (decide ((1 : Int) ≤ a.length) && decide ((a.length : Int) ≤ 8)) = false := by simp; omega
    rw [this]
    have : sigOk a = false := by
      cases hs : sigOk a with
      | false => rfl
      | true => have := sigOk_iff.1 hs; omega
    simp [this]
theorem F_slices_Min_ok {x : List Int} (h0 : 0 < x.length) (hs : Small x) : Okk True (F_slices_Min_int64_int64 x) fun m => ∀ b, b ≤ m ↔ ∀ y ∈ x, b ≤ y := by
  unfold F_slices_Min_int64_int64
  have h1 : ¬ (x.length : Int) < 1 := by omega
  have h2 : (0 : Int) < x.length := by omega
  simp only [h1, h2, decide_false, Bool.false_eq_true, if_false, Int.le_refl, and_self, if_true]
  refine Okk.loop (fun s : Int × Int => ∃ i : Nat, s.2 = (i : Int) ∧ 1 ≤ i ∧ i ≤ x.length ∧ ∀ b, b ≤ s.1 ↔ ∀ y ∈ x.take i, b ≤ y) (fun s : Int × Int => x.length - s.2.toNat) ⟨1, rfl, Nat.le_refl _, by omega, fun b => ?_⟩ ?_
  · cases x with
    | nil => simp at h0
    | cons y x => simp
  · rintro ⟨m, i'⟩ ⟨i, rfl, h3, h4, h5⟩
    simp only [F_slices_Min_int64_int64_l1] at h5 ⊢
    by_cases hi : i < x.length
    · have hi' : (i : Int) < x.length := by omega
      have hw : IntKind.i64.wrap ((i : Int) + 1) = i + 1 := w64 (by omega) (by omega)
      simp only [hi', decide_true, if_true, show (0 : Int) ≤ i by omega, and_self, Int.toNat_natCast, getD_get hi, hw]
      refine .some ⟨⟨i + 1, by simp, by omega, by omega, fun b => ?_⟩, by simp; omega⟩
      rw [List.take_add_one, List.getElem?_eq_getElem hi]
      have := h5 b
      simp only [List.mem_append, Option.toList_some, List.mem_singleton]
      split
      · constructor
        · rintro hb y (hy | rfl)
          · exact (h5 b).1 (by omega) y hy
          · exact hb
        · intro hb; exact hb _ (.inr rfl)
      · constructor
        · rintro hb y (hy | rfl)
          · exact (h5 b).1 hb y hy
          · omega
        · intro hb; exact (h5 b).2 fun y hy => hb y (.inl hy)
    · have hi' : ¬ (i : Int) < x.length := by omega
      simp only [hi', decide_false, Bool.false_eq_true, if_false, Option.map_some]
      refine .some fun b => ?_
      rw [h5 b, List.take_of_length_le (by omega)]
theorem ari_le {a : List Int} (ha : sigOk a = true) (x : Int) : ari a x ≤ 3 := by
  have := (sigOk_iff.1 ha).2.2
  unfold ari
  split
  · omega
  · rw [List.getD_eq_getElem?_getD]
    cases h : a[x.toNat]? with
    | none => simp
    | some y => have := this y (List.mem_of_getElem? h); simp; omega
theorem F_impl_arityAt_eq {a : List Int} (ha : sigOk a = true) {x : Int} (hx : x < a.length) : F_impl_arityAt a x = some (ari a x : Int) := by
  unfold F_impl_arityAt ari
  by_cases h : x < 0
  · simp [h]
  · have h2 : 0 ≤ x := by omega
    simp only [h, decide_false, Bool.false_eq_true, if_false, h2, hx, and_self, if_true]
    have hl : x.toNat < a.length := by omega
    have := (sigOk_iff.1 ha).2.2 _ (getD_mem hl)
    rw [show a.getD x.toNat 0 = a.getD x.toNat default from rfl]
    rw [show ((a.getD x.toNat default).toNat : Int) = a.getD x.toNat default by omega]
theorem F_impl_cursor_next_eq {a t : List Int} (ha : sigOk a = true) (hs : Small t) {i : Nat} (hi : i ≤ t.length) : F_impl_cursor_next a t i =
    some (match t.drop i with | [] => (-1, (i : Int)) | x :: _ => if x < a.length then ((ari a x : Int), (i : Int) + 1) else (-1, i)) := by
  unfold F_impl_cursor_next
  by_cases h : i < t.length
  · have h1 : ¬ (t.length : Int) ≤ i := by omega
    have h2 : (i : Int) < t.length := by omega
    have hw : IntKind.i64.wrap ((i : Int) + 1) = i + 1 := w64 (by omega) (by omega)
    have hw2 : IntKind.i64.wrap ((i : Int) + 1 - 1) = i := by rw [w64 (by omega) (by omega)]; omega
    rw [List.drop_eq_getElem_cons h]
    simp only [h1, h2, decide_false, Bool.false_eq_true, if_false, show (0 : Int) ≤ i by omega, and_self, if_true, Int.toNat_natCast, getD_get h, hw, hw2]
    by_cases h3 : t[i] < a.length
    · have h4 : ¬ (a.length : Int) ≤ t[i] := by omega
      simp [h3, h4, F_impl_arityAt_eq ha h3]
    · have h4 : (a.length : Int) ≤ t[i] := by omega
      simp [h3, h4]
  · have h1 : (t.length : Int) ≤ i := by omega
    rw [List.drop_of_length_le (by omega)]
    simp [h1]
theorem skip_drop {a t : List Int} {i k : Nat} (h : i < t.length) : Tm.skip a (t.drop i) (k + 1) = if okx a (t[i]) then Tm.skip a (t.drop (i + 1)) (k + ari a t[i]) else none := by
  rw [List.drop_eq_getElem_cons h, skip_cons]
def endI (a t : List Int) (i : Nat) : Int := match Tm.skip a (t.drop i) 1 with | some r => (t.length : Int) - r.length | none => -1
theorem skip_len {a : List Int} : ∀ {t r : List Int} {k : Nat}, Tm.skip a t k = some r → r.length + k ≤ t.length := by
  intro t r k h
  obtain ⟨u, rfl, hu⟩ := skip_split h
  have := hu.len
  simp; omega
theorem F_impl_endAt_eq {a t : List Int} (ha : sigOk a = true) (hs : Small t) (hm : ∀ x ∈ t, -24 ≤ x) {i : Nat} (hi : i ≤ t.length) : F_impl_endAt a t i = some (endI a t i) := by
  have key : Okk True (F_impl_cursor_skip a t i) fun r => match Tm.skip a (t.drop i) 1 with | some q => r = (true, (t.length : Int) - q.length) | none => r.1 = false := by
    unfold F_impl_cursor_skip
    refine Okk.loop (fun s => ∃ (k c : Nat), s = ((k : Int), (c : Int)) ∧ c ≤ t.length ∧ k ≤ 1 + 3 * c ∧ Tm.skip a (t.drop c) k = Tm.skip a (t.drop i) 1) (fun s => t.length - s.2.toNat) ⟨1, i, rfl, hi, by omega, rfl⟩ ?_
    rintro _ ⟨k, c, rfl, h1, h2, h3⟩
    simp only [F_impl_cursor_skip_l1]
    cases k with
    | zero =>
      simp only [show ¬ (0 : Int) < ((0 : Nat) : Int) by omega, decide_false, Bool.false_eq_true, if_false, Option.map_some]
      refine .some ?_
      simp only [Rnd]
      rw [← h3, skip_zero]
      simp; omega
    | succ k =>
      simp only [show (0 : Int) < ((k + 1 : Nat) : Int) by omega, decide_true, if_true, F_impl_cursor_next_eq ha hs h1, Option.bind_some]
      by_cases hc : c < t.length
      · rw [List.drop_eq_getElem_cons hc]
        rw [skip_drop hc] at h3
        simp only
        have hx := hm _ (List.getElem_mem hc)
        by_cases hlt : t[c] < a.length
        · have ho : okx a t[c] := ⟨hx, hlt⟩
          rw [if_pos ho] at h3
          have hle := ari_le ha t[c]
          simp only [hlt, if_true, show ¬ ((ari a t[c] : Nat) : Int) < 0 by omega, decide_false, Bool.false_eq_true, if_false]
          have hw1 : IntKind.i64.wrap (((k + 1 : Nat) : Int) + (ari a t[c] : Int)) = (k + 1 : Nat) + ari a t[c] := w64 (by omega) (by omega)
          rw [hw1, w64 (by omega) (by omega)]
          refine .some ⟨⟨k + ari a t[c], c + 1, by simp; omega, by omega, by omega, h3⟩, by simp; omega⟩
        · have ho : ¬ okx a t[c] := fun h => hlt h.2
          rw [if_neg ho] at h3
          simp only [hlt, if_false, show (-1 : Int) < 0 by omega, decide_true, if_true, Option.map_some]
          refine .some ?_
          simp only [Rnd]
          rw [← h3]; trivial
      · rw [List.drop_of_length_le (by omega), skip_nil] at h3
        rw [List.drop_of_length_le (by omega)]
        simp only [show (-1 : Int) < 0 by omega, decide_true, if_true, Option.map_some]
        refine .some ?_
        simp only [Rnd]
        rw [← h3]; trivial
  unfold F_impl_endAt
  obtain ⟨r, h1, h2⟩ := key.get
  rw [h1, Option.bind_some]
  unfold endI
  cases h : Tm.skip a (t.drop i) 1 with
  | none => rw [h] at h2; simp only at h2; simp [h2]
  | some q => rw [h] at h2; simp only at h2; simp [h2]
def termOk (a t : List Int) : Bool := sigOk a && (decide (1 ≤ t.length) && decide (t.length ≤ 60)) && decide (Wf a 1 t)
theorem termOk_iff {a t : List Int} : termOk a t = true ↔ sigOk a = true ∧ 1 ≤ t.length ∧ t.length ≤ 60 ∧ Wf a 1 t := by simp [termOk, and_assoc]
theorem endI_wf {a t : List Int} : endI a t 0 = (t.length : Int) ↔ Wf a 1 t := by
  unfold endI Wf
  rw [List.drop_zero]
  cases h : Tm.skip a t 1 with
  | none =>
    simp only [reduceCtorEq, iff_false]
    try omega
  | some q =>
    simp only [Option.some.injEq]
    constructor
    · intro h; exact List.length_eq_zero_iff.1 (by omega)
    · rintro rfl; simp
theorem F_impl_TermOk_eq (a t : List Int) : F_impl_TermOk a t = some (termOk a t) := by
  unfold F_impl_TermOk termOk
  rw [F_impl_SigOk_eq, Option.bind_some]
  cases ha : sigOk a with
  | false => simp
  | true =>
    simp only [if_true, Bool.true_and]
    by_cases h1 : 1 ≤ t.length
    · by_cases h2 : t.length ≤ 60
      · have e1 : (0 : Int) < t.length := by omega
        have e2 : (t.length : Int) ≤ 60 := by omega
        simp only [e1, e2, h1, h2, decide_true, if_true, Bool.and_self, Bool.true_and]
        obtain ⟨m, h3, h4⟩ := (F_slices_Min_ok (x := t) (by omega) (show t.length < _ by omega)).get
        rw [h3, Option.bind_some]
        by_cases h5 : -24 ≤ m
        · simp only [h5, decide_true, if_true]
          have := F_impl_endAt_eq ha (show t.length < _ by omega) ((h4 _).1 h5) (i := 0) (by omega)
          rw [show ((0 : Nat) : Int) = 0 by rfl] at this
          rw [this, Option.bind_some]
          by_cases hw : Wf a 1 t
          · simp [hw, endI_wf.2 hw]
          · have := mt endI_wf.1 hw
            simp [hw, this]
        · have hw : ¬ Wf a 1 t := fun hw => h5 ((h4 _).2 fun y hy => (hw.all y hy).1)
          simp [h5, hw]
      · have e2 : ¬ (t.length : Int) ≤ 60 := by omega
        have e1 : (0 : Int) < t.length := by omega
        simp [e1, e2, h2]
    · have e1 : ¬ (0 : Int) < t.length := by omega
      simp only [e1, h1, decide_false, Bool.false_eq_true, if_false, Bool.false_and]
theorem F_spec_l1Arity_eq {a : List Int} (ha : sigOk a = true) (x : Int) : F_spec_l1Arity a x = some (if okx a x then (ari a x : Int) else -1) := by
  have hl := (sigOk_iff.1 ha).2.1
  unfold F_spec_l1Arity
  simp only [F_spec_l1In_eq, Option.bind_some, w64 (n := (a.length : Int) - 1) (by omega) (by omega)]
  by_cases h1 : -24 ≤ x
  · by_cases h2 : x ≤ -1
    · simp [h1, h2, okx, ari, show x < 0 by omega, show x < (a.length : Int) by omega]
    · by_cases h3 : x < a.length
      · have hx : x.toNat < a.length := by omega
        have := (sigOk_iff.1 ha).2.2 _ (getD_mem hx)
        simp only [h1, h2, h3, okx, show 0 ≤ x by omega, show x ≤ (a.length : Int) - 1 by omega, decide_true, decide_false, Bool.and_false, Bool.and_self, Bool.false_eq_true, if_false, and_self, if_true, ari, show ¬ x < 0 by omega]
        rw [show a.getD x.toNat 0 = a.getD x.toNat default from rfl]
        rw [show ((a.getD x.toNat default).toNat : Int) = a.getD x.toNat default by omega]
      · simp [h1, h2, h3, okx, show ¬ x ≤ (a.length : Int) - 1 by omega]
  · simp [h1, okx, show ¬ 0 ≤ x by omega]
theorem F_spec_l1End_eq {a t : List Int} (ha : sigOk a = true) (hs : Small t) {i : Nat} (hi : i ≤ t.length) : F_spec_l1End a t i = some (endI a t i) := by
  have key : Okk True (F_spec_l1End a t i) (· = endI a t i) := by
    unfold F_spec_l1End
    refine Okk.loop (fun s : Int × Int => ∃ (k c : Nat), s = (((k + 1 : Nat) : Int), (c : Int)) ∧ c ≤ t.length ∧ k ≤ 3 * c ∧ Tm.skip a (t.drop c) (k + 1) = Tm.skip a (t.drop i) 1) (fun s : Int × Int => t.length - s.2.toNat) ⟨0, i, rfl, hi, by omega, rfl⟩ ?_
    rintro _ ⟨k, c, rfl, h1, h2, h3⟩
    simp only [F_spec_l1End_l1]
    by_cases hc : c < t.length
    · rw [skip_drop hc] at h3
      have hc' : (c : Int) < t.length := by omega
      simp only [hc', decide_true, if_true, show (0 : Int) ≤ c by omega, and_self, Int.toNat_natCast, getD_get hc, F_spec_l1Arity_eq ha, Option.bind_some]
      have hle := ari_le ha t[c]
      by_cases ho : okx a t[c]
      · rw [if_pos ho] at h3
        simp only [ho, if_true, show ¬ ((ari a t[c] : Nat) : Int) < 0 by omega, decide_false, Bool.false_eq_true, if_false]
        rw [w64 (n := ((k + 1 : Nat) : Int) + (ari a t[c] : Int)) (by omega) (by omega), w64 (n := ((k + 1 : Nat) : Int) + (ari a t[c] : Int) - 1) (by omega) (by omega), w64 (n := (c : Int) + 1) (by omega) (by omega)]
        cases hk : k + ari a t[c] with
        | zero =>
          rw [hk, skip_zero] at h3
          have : (((k + 1 : Nat) : Int) + (ari a t[c] : Int) - 1 == 0) = true := by simp; omega
          simp only [this, if_true, Option.map_some]
          refine .some ?_
          simp only [Rnd, endI]
          rw [← h3]
          simp; omega
        | succ q =>
          have : ¬ (((k + 1 : Nat) : Int) + (ari a t[c] : Int) - 1 == 0) = true := by simp; omega
          simp only [this, if_false]
          refine .some ⟨⟨q, c + 1, by simp; omega, by omega, by omega, by rw [← hk]; exact h3⟩, by simp; omega⟩
      · rw [if_neg ho] at h3
        simp only [ho, if_false, show (-1 : Int) < 0 by omega, decide_true, if_true, Option.map_some]
        refine .some ?_
        simp only [Rnd, endI]
        rw [← h3]
    · have hc' : ¬ (c : Int) < t.length := by omega
      rw [List.drop_of_length_le (by omega), skip_nil] at h3
      simp only [hc', decide_false, Bool.false_eq_true, if_false, Option.map_some]
      refine .some ?_
      simp only [Rnd, endI]
      rw [← h3]
  exact key.eq
theorem F_spec_TermOk_eq (a t : List Int) : F_spec_TermOk a t = some (termOk a t) := by
  unfold F_spec_TermOk termOk
  rw [F_spec_SigOk_eq, Option.bind_some]
  cases ha : sigOk a with
  | false => simp
  | true =>
    simp only [if_true, Bool.true_and, F_spec_l1In_eq, Option.bind_some]
    have e : (decide ((1 : Int) ≤ t.length) && decide ((t.length : Int) ≤ 60)) = (decide (1 ≤ t.length) && decide (t.length ≤ 60)) := by
      congr 1 <;> exact decide_eq_decide.2 (by omega)
    rw [e]
    by_cases h : 1 ≤ t.length ∧ t.length ≤ 60
    · simp only [h.1, h.2, decide_true, Bool.and_self, if_true, Bool.true_and]
      have := F_spec_l1End_eq ha (show Small t by show t.length < _; omega) (i := 0) (by omega)
      rw [show ((0 : Nat) : Int) = 0 by rfl] at this
      rw [this, Option.bind_some]
      by_cases hw : Wf a 1 t
      · simp [hw, endI_wf.2 hw]
      · have := mt endI_wf.1 hw
        simp [hw, this]
    · have : (decide (1 ≤ t.length) && decide (t.length ≤ 60)) = false := by simp; omega
      simp [this]
theorem F_slices_Contains_eq {s : List Int} (hs : Small s) (v : Int) : F_slices_Contains_int64_int64 s v = some (decide (v ∈ s)) := by
  have key : Okk True (F_slices_Index_int64_int64 s v) fun r => 0 ≤ r ↔ v ∈ s := by
    unfold F_slices_Index_int64_int64
    refine Okk.loop (fun i' : Int => ∃ i : Nat, i' = i ∧ i ≤ s.length ∧ v ∉ s.take i) (fun i' : Int => s.length - i'.toNat) ⟨0, rfl, by omega, by simp⟩ ?_
    rintro _ ⟨i, rfl, h1, h2⟩
    simp only [F_slices_Index_int64_int64_l1]
    by_cases hi : i < s.length
    · have hi' : (i : Int) < s.length := by omega
      simp only [hi', decide_true, if_true, show (0 : Int) ≤ i by omega, and_self, Int.toNat_natCast, getD_get hi, w64 (n := (i : Int) + 1) (by omega) (by omega)]
      by_cases hv : v = s[i]
      · simp only [hv, beq_self_eq_true, if_true, Option.map_some]
        refine .some ?_
        simp only [Rnd]
        exact ⟨fun _ => List.getElem_mem hi, fun _ => by omega⟩
      · have : ¬ (v == s[i]) = true := by simpa using hv
        simp only [this, if_false]
        refine .some ⟨⟨i + 1, by simp, by omega, ?_⟩, by simp; omega⟩
        rw [List.take_add_one, List.getElem?_eq_getElem hi, List.mem_append]
        rintro (h | h)
        · exact h2 h
        · exact hv (by simpa using h)
    · have hi' : ¬ (i : Int) < s.length := by omega
      simp only [hi', decide_false, Bool.false_eq_true, if_false, Option.map_some]
      refine .some ?_
      rw [List.take_of_length_le (by omega)] at h2
      simp only [Rnd]
      exact ⟨fun h => by omega, fun h => absurd h h2⟩
  unfold F_slices_Contains_int64_int64
  obtain ⟨r, h1, h2⟩ := key.get
  rw [h1, Option.bind_some]
  congr 1
  exact decide_eq_decide.2 h2
theorem F_spec_l1Has_eq {s : List Int} (hs : Small s) (v : Int) : F_spec_l1Has s v = some (decide (v ∈ s)) := by
  unfold F_spec_l1Has
  rw [loop_any (xs := s) (p := fun x => x == v) (y := true) (n := false) (fun i x hi hi' _ hx => ?_) (by simp [F_spec_l1Has_l1])]
  · congr 1
    by_cases h : v ∈ s
    · have : s.any (fun x => x == v) = true := List.any_eq_true.2 ⟨v, h, by simp⟩
      simp [this, h]
    · have : s.any (fun x => x == v) = false := by
        rw [List.any_eq_false]
        intro x hx he
        have : x = v := by simpa using he
        subst this; exact h hx
      simp [this, h]
  · simp only [F_spec_l1Has_l1, hi', decide_true, if_true, Int.toNat_natCast, show (0 : Int) ≤ i by omega, and_self, hx, w64 (n := (i : Int) + 1) (by have := hs; omega) (by have := hs; omega)]
    by_cases h : (x == v) = true
    · simp [h]
    · simp [h]
def varIn (l : List Int) (x : Int) : Bool := decide (x < 0 → x ∈ l)
def ruleOk (a : List Int) (r : List Int × List Int) : Bool := termOk a r.1 && (termOk a r.2 && (decide (0 ≤ r.1.headD 0) && r.2.all (varIn r.1)))
def sysOk (s : List Int × List (List Int × List Int)) : Bool := sigOk s.1 && (decide (s.2.length ≤ 12) && s.2.all (ruleOk s.1))
theorem headD_getD {l : List Int} (h : 0 < l.length) : l.getD 0 default = l.headD 0 := by cases l with | nil => simp at h | cons x l => rfl
theorem F_impl_RuleOk_eq (a : List Int) (r : List Int × List Int) : F_impl_RuleOk a r = some (ruleOk a r) := by
  unfold F_impl_RuleOk ruleOk
  rw [F_impl_TermOk_eq, F_impl_TermOk_eq, Option.bind_some]
  cases h1 : termOk a r.1 with
  | false => simp
  | true =>
    rw [Option.bind_some]
    cases h2 : termOk a r.2 with
    | false => simp
    | true =>
      have e1 := termOk_iff.1 h1
      have e2 := termOk_iff.1 h2
      have e3 : (0 : Int) < r.1.length := by omega
      simp only [if_true, Int.le_refl, e3, and_self, Bool.true_and, and_true]
      rw [headD_getD (by omega)]
      by_cases h3 : r.1.headD 0 < 0
      · simp [-List.headD_eq_head?_getD, h3, show ¬ 0 ≤ r.1.headD 0 by omega]
      · simp only [h3, decide_false, Bool.false_eq_true, if_false, show 0 ≤ r.1.headD 0 by omega, decide_true, Bool.true_and]
        refine loop_all (fun i x hi hi' _ hx => ?_) (by simp [F_impl_RuleOk_l1])
        simp only [F_impl_RuleOk_l1, hi', decide_true, if_true, Int.toNat_natCast, show (0 : Int) ≤ i by omega, and_self, hx, w64 (n := (i : Int) + 1) (by omega) (by omega), varIn,
          F_slices_Contains_eq (show Small r.1 by show r.1.length < _; omega), Option.bind_some]
        by_cases h4 : x < 0 <;> by_cases h5 : x ∈ r.1 <;> simp [h4, h5]
theorem F_spec_RuleOk_eq (a : List Int) (r : List Int × List Int) : F_spec_RuleOk a r = some (ruleOk a r) := by
  unfold F_spec_RuleOk ruleOk
  rw [F_spec_TermOk_eq, F_spec_TermOk_eq, Option.bind_some]
  cases h1 : termOk a r.1 with
  | false => simp
  | true =>
    rw [Option.bind_some]
    cases h2 : termOk a r.2 with
    | false => simp
    | true =>
      have e1 := termOk_iff.1 h1
      have e2 := termOk_iff.1 h2
      have e3 : (0 : Int) < r.1.length := by omega
      simp only [if_true, Int.le_refl, e3, and_self, Bool.true_and, and_true]
      rw [headD_getD (by omega)]
      by_cases h3 : r.1.headD 0 < 0
      · simp [-List.headD_eq_head?_getD, h3, show ¬ 0 ≤ r.1.headD 0 by omega]
      · simp only [h3, decide_false, Bool.false_eq_true, if_false, show 0 ≤ r.1.headD 0 by omega, decide_true, Bool.true_and]
        refine loop_all (fun i x hi hi' _ hx => ?_) (by simp [F_spec_RuleOk_l1])
        simp only [F_spec_RuleOk_l1, hi', decide_true, if_true, Int.toNat_natCast, show (0 : Int) ≤ i by omega, and_self, hx, w64 (n := (i : Int) + 1) (by omega) (by omega), varIn,
          F_spec_l1Has_eq (show Small r.1 by show r.1.length < _; omega), Option.bind_some]
        by_cases h4 : x < 0 <;> by_cases h5 : x ∈ r.1 <;> simp [h4, h5]
theorem F_impl_SystemOk_eq (s : List Int × List (List Int × List Int)) : F_impl_SystemOk s = some (sysOk s) := by
  unfold F_impl_SystemOk sysOk
  rw [F_impl_SigOk_eq, Option.bind_some]
  cases h1 : sigOk s.1 with
  | false => simp
  | true =>
    by_cases h2 : 12 < (s.2.length : Int)
    · simp [h2, show ¬ s.2.length ≤ 12 by omega]
    · simp only [if_true, h2, decide_false, Bool.false_eq_true, if_false, Bool.true_and, show s.2.length ≤ 12 by omega, decide_true]
      refine loop_all (fun i x hi hi' _ hx => ?_) (by simp [F_impl_SystemOk_l1])
      simp only [F_impl_SystemOk_l1, hi', decide_true, if_true, Int.toNat_natCast, show (0 : Int) ≤ i by omega, and_self, hx, w64 (n := (i : Int) + 1) (by omega) (by omega), F_impl_RuleOk_eq, Option.bind_some]
      cases ruleOk s.1 x <;> simp
theorem F_spec_SystemOk_eq (s : List Int × List (List Int × List Int)) : F_spec_SystemOk s = some (sysOk s) := by
  unfold F_spec_SystemOk sysOk
  rw [F_spec_SigOk_eq, Option.bind_some]
  cases h1 : sigOk s.1 with
  | false => simp
  | true =>
    by_cases h2 : 12 < (s.2.length : Int)
    · simp [h2, show ¬ s.2.length ≤ 12 by omega]
    · simp only [if_true, h2, decide_false, Bool.false_eq_true, if_false, Bool.true_and, show s.2.length ≤ 12 by omega, decide_true]
      refine loop_all (fun i x hi hi' _ hx => ?_) (by simp [F_spec_SystemOk_l1])
      simp only [F_spec_SystemOk_l1, hi', decide_true, if_true, Int.toNat_natCast, show (0 : Int) ≤ i by omega, and_self, hx, w64 (n := (i : Int) + 1) (by omega) (by omega), F_spec_RuleOk_eq, Option.bind_some]
      cases ruleOk s.1 x <;> simp
theorem getD_ext {s t : List Int} (hl : s.length = t.length) : (s == t) = decide (∀ i < s.length, s.getD i default = t.getD i default) := by
  have : (s == t) = decide (s = t) := by by_cases h : s = t <;> simp [h]
  rw [this]
  refine decide_eq_decide.2 ⟨fun h => by subst h; simp, fun h => ?_⟩
  refine List.ext_getElem hl fun i h1 h2 => ?_
  have := h i h1
  rwa [getD_get h1, getD_get h2] at this
theorem loop_eq {s t : List Int} (hs : Small s) (hl : s.length = t.length) {f : Int → Option (Int ⊕ Bool)}
    (h : ∀ i : Nat, i < s.length → f i = some (if s.getD i default = t.getD i default then .inl ((i : Int) + 1) else .inr false)) (he : f s.length = some (.inr true)) : loopC f 0 = some (s == t) := by
  have key : Okk True (loopC f 0) fun r => r = decide (∀ i < s.length, s.getD i default = t.getD i default) := by
    refine Okk.loop (fun i' : Int => ∃ i : Nat, i' = i ∧ i ≤ s.length ∧ ∀ j < i, s.getD j default = t.getD j default) (fun i' : Int => s.length - i'.toNat) ⟨0, rfl, by omega, by omega⟩ ?_
    rintro _ ⟨i, rfl, h1, h2⟩
    by_cases hi : i < s.length
    · rw [h i hi]
      by_cases e : s.getD i default = t.getD i default
      · rw [if_pos e]
        refine .some ⟨⟨i + 1, by simp, by omega, fun j hj => ?_⟩, by simp; omega⟩
        rcases Nat.lt_or_ge j i with h3 | h3
        · exact h2 j h3
        · obtain rfl : j = i := by omega
          exact e
      · rw [if_neg e]
        refine .some ?_
        simp only [Rnd]
        exact (decide_eq_false fun h => e (h i hi)).symm
    · obtain rfl : i = s.length := by omega
      rw [he]
      refine .some ?_
      simp only [Rnd]
      exact (decide_eq_true h2).symm
  rw [getD_ext hl]
  obtain ⟨r, h1, h2⟩ := key.get
  rw [h1, h2]
theorem F_slices_Equal_eq {s t : List Int} (hs : Small s) : F_slices_Equal_int64_int64 s t = some (s == t) := by
  unfold F_slices_Equal_int64_int64
  by_cases hl : s.length = t.length
  · have : ¬ ((s.length : Int) != (t.length : Int)) = true := by simp; omega
    rw [if_neg this]
    refine loop_eq hs hl (fun i hi => ?_) (by simp [F_slices_Equal_int64_int64_l1])
    simp only [F_slices_Equal_int64_int64_l1, show (i : Int) < s.length by omega, show (i : Int) < t.length by omega, decide_true, if_true, show (0 : Int) ≤ i by omega, and_self, Int.toNat_natCast,
      w64 (n := (i : Int) + 1) (by have := hs; omega) (by have := hs; omega)]
    by_cases e : s.getD i default = t.getD i default
    · simp only [e, bne_self_eq_false, Bool.false_eq_true, if_false, if_true]
    · have : (s.getD i default != t.getD i default) = true := by simpa using e
      simp only [this, e, if_true, if_false, Option.map_some]
  · have : ((s.length : Int) != (t.length : Int)) = true := by simp; omega
    rw [if_pos this]
    congr 1
    symm
    rw [beq_eq_false_iff_ne]
    rintro rfl; exact hl rfl
theorem F_spec_SameTerm_eq {s t : List Int} (hs : Small s) : F_spec_SameTerm s t = some (s == t) := by
  unfold F_spec_SameTerm
  by_cases hl : s.length = t.length
  · have : ¬ ((s.length : Int) != (t.length : Int)) = true := by simp; omega
    rw [if_neg this]
    refine loop_eq hs hl (fun i hi => ?_) (by simp [F_spec_SameTerm_l1])
    simp only [F_spec_SameTerm_l1, show (i : Int) < s.length by omega, show (i : Int) < t.length by omega, decide_true, if_true, show (0 : Int) ≤ i by omega, and_self, Int.toNat_natCast,
      w64 (n := (i : Int) + 1) (by have := hs; omega) (by have := hs; omega)]
    by_cases e : s.getD i default = t.getD i default
    · simp only [e, bne_self_eq_false, Bool.false_eq_true, if_false, if_true]
    · have : (s.getD i default != t.getD i default) = true := by simpa using e
      simp only [this, e, if_true, if_false, Option.map_some]
  · have : ((s.length : Int) != (t.length : Int)) = true := by simp; omega
    rw [if_pos this]
    congr 1
    symm
    rw [beq_eq_false_iff_ne]
    rintro rfl; exact hl rfl
theorem F_spec_l1Copy_eq {l : List Int} (hs : Small l) : F_spec_l1Copy l = some l := by
  unfold F_spec_l1Copy; rw [if_pos (by have := hs; omega)]
theorem F_slices_Clone_eq {l : List Int} (hs : Small l) : F_slices_Clone_int64_int64 l = some l := by
  unfold F_slices_Clone_int64_int64
  refine (Okk.amb (t := True) (P := (· = l)) ?_ fun h => ?_).eq
  · rw [if_pos (by have := hs; omega)]; exact .some rfl
  · subst h; simp
theorem endI_app {a t u r : List Int} {i : Nat} (h : t.drop i = u ++ r) (hu : Wf a 1 u) : endI a t i = (t.length : Int) - r.length := by
  unfold endI; rw [h, hu.skip]
theorem take_sub {t u r : List Int} {i : Nat} (h : t.drop i = u ++ r) (hi : i ≤ t.length) : (t.take (t.length - r.length)).drop i = u := by
  have hl := congrArg List.length h
  simp at hl
  rw [List.drop_take, h, List.take_append_of_le_length (by omega), List.take_of_length_le (by omega)]
theorem F_impl_subAt_eq {a t u r : List Int} (ha : sigOk a = true) (hs : Small t) (hm : ∀ x ∈ t, -24 ≤ x) {i : Nat} (h : t.drop i = u ++ r) (hu : Wf a 1 u) : F_impl_subAt a t i = some u := by
  have hl := congrArg List.length h
  have hul := hu.len
  simp at hl
  have hi : i ≤ t.length := by omega
  unfold F_impl_subAt
  rw [F_impl_endAt_eq ha hs hm hi, Option.bind_some, endI_app h hu, if_pos (by omega), show ((t.length : Int) - r.length).toNat = t.length - r.length by omega, Int.toNat_natCast, take_sub h hi]
theorem F_spec_l1Sub_eq {a t u r : List Int} (ha : sigOk a = true) (hs : Small t) {i : Nat} (h : t.drop i = u ++ r) (hu : Wf a 1 u) : F_spec_l1Sub a t i = some u := by
  have hl := congrArg List.length h
  have hul := hu.len
  simp at hl
  have hi : i ≤ t.length := by omega
  unfold F_spec_l1Sub
  rw [F_spec_l1End_eq ha hs hi, Option.bind_some, endI_app h hu, if_pos (by omega), show ((t.length : Int) - r.length).toNat = t.length - r.length by omega, Int.toNat_natCast, take_sub h hi,
    F_spec_l1Copy_eq (by show u.length < _; have := hs; omega)]
  rfl
def encB (o : Option Bd) (r : Bd × Bool) : Prop := match o with | some b => r = (b, true) | none => r.2 = false
structure MSt (a p t : List Int) (b0 b : Bd) (i c : Nat) : Prop where
  hi : i ≤ p.length
  hc : c ≤ t.length
  hb : b.length = 24
  hsm : ∀ u ∈ b, u.length ≤ 60
  k : ∃ k, Wf a k (p.drop i) ∧ Wf a k (t.drop c)
  m : mat a (p.drop i) (t.drop c) b = mat a p t b0
theorem MSt.var {a p t : List Int} {b0 b : Bd} {i c : Nat} (h : MSt a p t b0 b i c) (hi : i < p.length) (hn : p[i] < 0) : ∃ u r, t.drop c = u ++ r ∧ Wf a 1 u ∧ c + u.length ≤ t.length ∧ okx a p[i] ∧
    mat a p t b0 = (if bget b p[i] = [] then mat a (p.drop (i + 1)) (t.drop (c + u.length)) (bset b p[i] u) else if bget b p[i] = u then mat a (p.drop (i + 1)) (t.drop (c + u.length)) b else none) ∧
    ∃ k, Wf a k (p.drop (i + 1)) ∧ Wf a k (t.drop (c + u.length)) := by
  obtain ⟨k, h1, h2⟩ := h.k
  rw [List.drop_eq_getElem_cons hi] at h1
  cases k with
  | zero => have := h1.zero; cases this
  | succ k =>
    obtain ⟨ho, h1⟩ := Wf.cons_iff.1 h1
    rw [show k + 1 = 1 + k by omega] at h2
    obtain ⟨u, r, e, hu, hr⟩ := h2.split
    have hr' : t.drop (c + u.length) = r := by rw [← List.drop_drop, e, List.drop_left]
    have hl := congrArg List.length e
    simp at hl
    have := hu.len
    refine ⟨u, r, e, hu, by omega, ho, ?_, k, ?_, by rw [hr']; exact hr⟩
    · rw [← h.m, List.drop_eq_getElem_cons hi, e, mat_var hn hu, hr']
    · have ha : ari a p[i] = 0 := by simp [ari, hn]
      rwa [ha, Nat.add_zero] at h1
theorem MSt.sym {a p t : List Int} {b0 b : Bd} {i c : Nat} (h : MSt a p t b0 b i c) (hi : i < p.length) (hn : ¬ p[i] < 0) : ∃ hc : c < t.length, okx a p[i] ∧ mat a p t b0 = (if t[c] = p[i] then mat a (p.drop (i + 1)) (t.drop (c + 1)) b else none) ∧
    (t[c] = p[i] → ∃ k, Wf a k (p.drop (i + 1)) ∧ Wf a k (t.drop (c + 1))) := by
  obtain ⟨k, h1, h2⟩ := h.k
  rw [List.drop_eq_getElem_cons hi] at h1
  cases k with
  | zero => have := h1.zero; cases this
  | succ k =>
    obtain ⟨ho, h1⟩ := Wf.cons_iff.1 h1
    have hc : c < t.length := by
      rcases Nat.lt_or_ge c t.length with h | h
      · exact h
      · rw [List.drop_of_length_le h] at h2; have := h2.len; simp at this
    rw [List.drop_eq_getElem_cons hc] at h2
    obtain ⟨ho', h2⟩ := Wf.cons_iff.1 h2
    refine ⟨hc, ho, ?_, fun e => ⟨k + ari a p[i], h1, by rw [← e]; exact h2⟩⟩
    rw [← h.m, List.drop_eq_getElem_cons hi, List.drop_eq_getElem_cons hc, mat_sym hn]
theorem MSt.at_lt {a p t : List Int} {b0 b : Bd} {i c : Nat} (h : MSt a p t b0 b i c) (hi : i < p.length) : c < t.length := by
  obtain ⟨k, h1, h2⟩ := h.k
  rw [List.drop_eq_getElem_cons hi] at h1
  cases k with
  | zero => have := h1.zero; cases this
  | succ k =>
    rcases Nat.lt_or_ge c t.length with h | h
    · exact h
    · rw [List.drop_of_length_le h] at h2; have := h2.len; simp at this
theorem bset_small {b : Bd} {n : Int} {u : List Int} (hs : ∀ u ∈ b, u.length ≤ 60) (hu : u.length ≤ 60) : ∀ v ∈ bset b n u, v.length ≤ 60 := fun v hv => by
  rcases List.mem_or_eq_of_mem_set hv with h | h
  · exact hs v h
  · subst h; exact hu
theorem bget_small {b : Bd} {n : Int} (hs : ∀ u ∈ b, u.length ≤ 60) : (bget b n).length ≤ 60 := by
  unfold bget
  rw [List.getD_eq_getElem?_getD]
  cases h : b[(-1 - n).toNat]? with
  | none => simp
  | some u => exact hs u (List.mem_of_getElem? h)
theorem F_impl_matchInto_ok {a p t : List Int} {b0 : Bd} (ha : sigOk a = true) (hp : Wf a 1 p) (ht : Wf a 1 t) (hpl : p.length ≤ 60) (htl : t.length ≤ 60) (hb : b0.length = 24) (hbs : ∀ u ∈ b0, u.length ≤ 60) :
    Okk True (F_impl_matchInto a p t b0) (fun r => encB (mat a p t b0) r ∧ r.1.length = 24) := by
  unfold F_impl_matchInto
  refine Okk.loop (fun s : Int × Int × Bd => ∃ i c : Nat, s.1 = (c : Int) ∧ s.2.1 = (i : Int) ∧ MSt a p t b0 s.2.2 i c) (fun s : Int × Int × Bd => p.length - s.2.1.toNat)
    ⟨0, 0, rfl, rfl, by omega, by omega, hb, hbs, ⟨1, by simpa using hp, by simpa using ht⟩, by simp⟩ ?_
  rintro ⟨_, _, b⟩ ⟨i, c, rfl, rfl, h⟩
  simp only at h
  have hb := h.hb
  simp only [F_impl_matchInto_l1]
  by_cases hi : i < p.length
  · have hc := h.at_lt hi
    simp only [show (i : Int) < p.length by omega, show ¬ (t.length : Int) ≤ c by omega, decide_true, decide_false, if_true, show (0 : Int) ≤ i by omega, show (0 : Int) ≤ c by omega, show (c : Int) < t.length by omega, and_self,
      Bool.false_eq_true, if_false, Int.toNat_natCast, getD_get hi, getD_get hc, w64 (n := (i : Int) + 1) (by omega) (by omega), w64 (n := (c : Int) + 1) (by omega) (by omega)]
    by_cases hn : p[i] < 0
    · obtain ⟨u, r, e, hu, hl, ho, hm, hk⟩ := h.var hi hn
      have hul := hu.len
      have hx : -24 ≤ p[i] := ho.1
      have hlt : (-1 - p[i]).toNat < b.length := by omega
      simp only [show ¬ 0 ≤ p[i] by omega, decide_false, Bool.false_eq_true, if_false, F_impl_subAt_eq ha (show Small t by show t.length < _; omega) (fun x hx => (ht.all x hx).1) e hu, Option.bind_some,
        w64 (n := -1 - p[i]) (by omega) (by omega), show 0 ≤ -1 - p[i] by omega, show -1 - p[i] < 24 by omega, show -1 - p[i] < (b.length : Int) by omega, and_self, if_true, hb, show ((-1 : Int) - p[i] < ((24 : Nat) : Int)) by omega,
        w64 (n := (c : Int) + u.length) (by omega) (by omega)]
      have eg : b.getD (-1 - p[i]).toNat default = bget b p[i] := rfl
      rw [eg]
      by_cases h0 : bget b p[i] = []
      · rw [if_pos h0] at hm
        simp only [h0, List.isEmpty_nil, if_true, show 0 < u.length by omega]
        exact .some ⟨⟨i + 1, c + u.length, by simp, by simp, by omega, by omega, by simpa using hb, bset_small h.hsm (by omega), hk, by rw [hm]; rfl⟩, by simp; omega⟩
      · rw [if_neg h0] at hm
        have : ¬ (bget b p[i]).isEmpty = true := by simpa using h0
        simp only [this, if_false, F_slices_Equal_eq (show Small (bget b p[i]) by show List.length _ < _; have := bget_small (n := p[i]) h.hsm; omega), Option.bind_some]
        by_cases h1 : bget b p[i] = u
        · rw [if_pos h1] at hm
          simp only [h1, beq_self_eq_true, if_true]
          exact .some ⟨⟨i + 1, c + u.length, by simp, by simp, by omega, by omega, hb, h.hsm, hk, hm.symm⟩, by simp; omega⟩
        · rw [if_neg h1] at hm
          have : ¬ (bget b p[i] == u) = true := by simpa using h1
          simp only [this, if_false, Option.map_some]
          refine .some ?_
          simp only [Rnd, encB, hm]
          exact ⟨trivial, hb⟩
    · obtain ⟨hc', ho, hm, hk⟩ := h.sym hi hn
      simp only [show 0 ≤ p[i] by omega, decide_true, if_true]
      by_cases e : t[c] = p[i]
      · rw [if_pos e] at hm
        simp only [e, bne_self_eq_false, Bool.false_eq_true, if_false]
        exact .some ⟨⟨i + 1, c + 1, by simp, by simp, by omega, by omega, hb, h.hsm, hk e, hm.symm⟩, by simp; omega⟩
      · rw [if_neg e] at hm
        have : (t[c] != p[i]) = true := by simpa using e
        simp only [this, if_true, hb, Option.map_some]
        refine .some ?_
        simp only [Rnd, encB, hm]
        exact ⟨trivial, hb⟩
  · have hm := h.m
    rw [List.drop_of_length_le (by omega), mat_nil] at hm
    simp only [show ¬ (i : Int) < p.length by omega, decide_false, Bool.false_eq_true, if_false, hb, if_true, Option.map_some]
    refine .some ?_
    simp only [Rnd, encB, ← hm]
    exact ⟨trivial, hb⟩
def plainAt (s : Bd) (i : Nat) : List Int := if s.getD i [] = [] ∨ s.getD i [] = [-1 - (i : Int)] then [] else s.getD i []
theorem plain_sig {s o : Bd} (h : ∀ i, o.getD i [] = plainAt s i) {n : Int} (hn : n < 0) : Tm.sig o n = Tm.sig s n := by
  unfold Tm.sig bget
  rw [h]
  unfold plainAt
  rw [show -1 - ((-1 - n).toNat : Int) = n by omega]
  by_cases h1 : s.getD (-1 - n).toNat [] = []
  · simp only [h1, true_or, if_true]
  · by_cases h2 : s.getD (-1 - n).toNat [] = [n]
    · simp only [h2, or_true, if_true]; simp
    · simp only [h1, h2, or_self, if_false]
theorem getD_append {s : Bd} {u : List Int} {i : Nat} : (s ++ [u]).getD i [] = if i < s.length then s.getD i [] else if i = s.length then u else [] := by
  rw [List.getD_eq_getElem?_getD]
  by_cases h : i < s.length
  · rw [if_pos h, List.getElem?_append_left h, List.getD_eq_getElem?_getD]
  · rw [if_neg h, List.getElem?_append_right (by omega)]
    by_cases h2 : i = s.length
    · subst h2; simp
    · rw [if_neg h2, List.getElem?_eq_none (by simp; omega)]; rfl
theorem getD_out {s : Bd} {i : Nat} (h : s.length ≤ i) : s.getD i [] = [] := by
  rw [List.getD_eq_getElem?_getD, List.getElem?_eq_none h]; rfl
structure PSt (s : Bd) (o : Bd) (i : Nat) : Prop where
  hi : i ≤ s.length
  hl : o.length ≤ i
  he : ∀ j < i, o.getD j [] = plainAt s j
theorem F_impl_plain_ok {s : Bd} (hl : s.length ≤ 24) (hs : ∀ u ∈ s, u.length ≤ 60) : Okk True (F_impl_plain s) fun o => o.length ≤ 24 ∧ ∀ i, o.getD i [] = plainAt s i := by
  unfold F_impl_plain
  refine Okk.loop (fun q : Int × Bd => ∃ i : Nat, q.1 = i ∧ PSt s q.2 i) (fun q : Int × Bd => s.length - q.1.toNat) ⟨0, rfl, by omega, by simp, by omega⟩ ?_
  rintro ⟨_, o⟩ ⟨i, rfl, h⟩
  simp only at h
  simp only [F_impl_plain_l1]
  by_cases hi : i < s.length
  · have hu := hs _ (List.getElem_mem hi)
    have hg : s.getD i [] = s[i] := getD_get hi
    simp only [show (i : Int) < s.length by omega, decide_true, if_true, show (0 : Int) ≤ i by omega, and_self, Int.toNat_natCast, getD_get hi, w64 (n := (i : Int) + 1) (by omega) (by omega)]
    have skip : plainAt s i = [] → Okk True (some (Sum.inl ((i : Int) + 1, o)) : Option ((Int × Bd) ⊕ Bd)) (Rnd (fun q : Int × Bd => ∃ i : Nat, q.1 = i ∧ PSt s q.2 i) (fun q : Int × Bd => s.length - q.1.toNat) (fun o => o.length ≤ 24 ∧ ∀ i, o.getD i [] = plainAt s i) (s.length - i)) := fun hp =>
      .some ⟨⟨i + 1, by simp, by omega, Nat.le_succ_of_le h.hl, fun j hj => by
        rcases Nat.lt_or_ge j i with h3 | h3
        · exact h.he j h3
        · obtain rfl : j = i := by omega
          rw [hp, getD_out h.hl]⟩, by simp; omega⟩
    by_cases h0 : s[i] = []
    · simp only [h0, List.length_nil, Int.natCast_zero, beq_self_eq_true, if_true]
      exact skip (by unfold plainAt; rw [hg, if_pos (.inl h0)])
    · have hne : ¬ (((s[i]).length : Int) == 0) = true := by
        have := List.length_pos_iff.2 h0
        simp only [beq_iff_eq]; omega
      simp only [hne, if_false, F_impl_variable, Option.bind_some, w64 (n := -1 - (i : Int)) (by omega) (by omega), F_slices_Equal_eq (show Small s[i] by show List.length _ < _; omega)]
      by_cases h1 : s[i] = [-1 - (i : Int)]
      · simp only [h1, beq_self_eq_true, if_true]
        exact skip (by unfold plainAt; rw [hg, if_pos (.inr h1)])
      · have : ¬ (s[i] == [-1 - (i : Int)]) = true := by simpa using h1
        simp only [this, if_false]
        have hp : plainAt s i = s[i] := by unfold plainAt; rw [hg, if_neg (by simp [h0, h1])]
        refine Okk.loop (fun o' : Bd => o'.length ≤ i ∧ ∀ j < i, o'.getD j [] = plainAt s j) (fun o' : Bd => i - o'.length) ⟨h.hl, h.he⟩ ?_
        rintro o' ⟨h3, h4⟩
        simp only [F_impl_plain_l2]
        by_cases h5 : o'.length < i
        · simp only [show (o'.length : Int) < i by omega, decide_true, if_true, show (o'.length + 1) * 24 ≤ 140737488355328 by omega]
          refine .some ⟨⟨by simp; omega, fun j hj => ?_⟩, by simp; omega⟩
          rw [getD_append]
          split
          · exact h4 j hj
          · have := h4 j hj
            rw [getD_out (by omega)] at this
            simp [← this]
        · simp only [show ¬ (o'.length : Int) < i by omega, decide_false, Bool.false_eq_true, if_false, show (o'.length + 1) * 24 ≤ 140737488355328 by omega, if_true]
          rw [Int.toNat_natCast, getD_get hi, F_slices_Clone_eq (show Small s[i] by show List.length _ < _; omega), Option.bind_some, Option.map_some]
          refine .some ?_
          refine ⟨⟨i + 1, by simp [w64 (n := (i : Int) + 1) (by omega) (by omega)], by omega, by simp; omega, fun j hj => ?_⟩, by simp [w64 (n := (i : Int) + 1) (by omega) (by omega)]; omega⟩
          rw [getD_append]
          split
          · exact h4 j (by omega)
          · obtain rfl : j = i := by omega
            rw [if_pos (by omega), hp]
  · simp only [show ¬ (i : Int) < s.length by omega, decide_false, Bool.false_eq_true, if_false, Option.map_some]
    refine .some ⟨by have := h.hl; have := h.hi; omega, fun j => ?_⟩
    by_cases hj : j < i
    · exact h.he j hj
    · rw [getD_out (by have := h.hl; omega)]
      unfold plainAt
      rw [getD_out (s := s) (by omega)]; simp
def MRes (o : Option Bd) (r : Bd × Bool) : Prop := match o with
  | some b => r.2 = true ∧ r.1.length ≤ 24 ∧ ∀ i, r.1.getD i [] = plainAt b i
  | none => r.2 = false
theorem mat_small {a : List Int} : ∀ {p t : List Int} {b b' : Bd}, mat a p t b = some b' → (∀ u ∈ b, u.length ≤ 60) → t.length ≤ 60 → b.length = 24 → b'.length = 24 ∧ ∀ u ∈ b', u.length ≤ 60
  | [], t, b, b', h, hs, _, hb => by rw [mat_nil] at h; cases h; exact ⟨hb, hs⟩
  | n :: p, t, b, b', h, hs, ht, hb => by
    unfold mat at h
    split at h
    · split at h
      · cases h
      · rename_i r hr
        have := skip_len hr
        simp only at h
        split at h
        · exact mat_small (b := Tm.bset b n _) h (bset_small hs (by simp; omega)) (by omega) (by simpa [Tm.bset] using hb)
        · split at h
          · exact mat_small h hs (by omega) hb
          · cases h
    · split at h
      · cases h
      · split at h
        · exact mat_small h hs (by simp at ht; omega) hb
        · cases h
theorem F_impl_match_ok {a p t : List Int} (ha : sigOk a = true) (hp : Wf a 1 p) (ht : Wf a 1 t) (hpl : p.length ≤ 60) (htl : t.length ≤ 60) : Okk True (F_impl_match a p t) (MRes (mat a p t none24)) := by
  unfold F_impl_match
  have hn : ∀ u ∈ none24, u.length ≤ 60 := by intro u hu; simp [none24] at hu; subst hu; simp
  obtain ⟨r, h1, h2, h3⟩ := (F_impl_matchInto_ok ha hp ht hpl htl (b0 := none24) (by simp [none24]) hn).get
  rw [show (List.replicate 24 [] : Bd) = none24 from rfl, h1, Option.bind_some, if_pos h3]
  cases hm : mat a p t none24 with
  | none =>
    rw [hm] at h2
    simp only [encB] at h2
    simp only [h2, Bool.false_eq_true, if_false]
    exact .some rfl
  | some b =>
    rw [hm] at h2
    simp only [encB] at h2
    subst h2
    obtain ⟨h4, h5⟩ := mat_small hm hn htl (by simp [none24])
    simp only [if_true, h4, F_impl_bindings_subst, Option.bind_some]
    refine Okk.bind (F_impl_plain_ok (by omega) h5) fun o ho => .some ⟨rfl, ho.1, ho.2⟩
theorem F_spec_l2Gives_eq {s : Bd} (hs : ∀ u ∈ s, u.length ≤ 60) (hl : s.length ≤ 24) {i : Nat} (hi : i ≤ 24) : F_spec_l2Gives s i = some (if s.getD i [] = [] then [-1 - (i : Int)] else s.getD i []) := by
  unfold F_spec_l2Gives
  rw [w64 (n := -1 - (i : Int)) (by omega) (by omega)]
  by_cases h : i < s.length
  · have hu := hs _ (List.getElem_mem h)
    have hg : s.getD i [] = s[i] := getD_get h
    simp only [show (i : Int) < s.length by omega, decide_true, if_true, show (0 : Int) ≤ i by omega, and_self, Int.toNat_natCast, getD_get h, hg]
    by_cases h0 : s[i] = []
    · simp [h0]
    · have := List.length_pos_iff.2 h0
      simp only [h0, if_false, show (0 : Int) < s[i].length by omega, decide_true, if_true, F_spec_l1Copy_eq (show Small s[i] by show List.length _ < _; omega), Option.bind_some]
  · simp only [show ¬ (i : Int) < s.length by omega, decide_false, Bool.false_eq_true, if_false, getD_out (s := s) (i := i) (by omega), if_true]
theorem F_spec_l2Plain_ok {s : Bd} (hl : s.length ≤ 24) (hs : ∀ u ∈ s, u.length ≤ 60) : Okk True (F_spec_l2Plain s) fun o => o.length ≤ 24 ∧ ∀ i, o.getD i [] = plainAt s i := by
  unfold F_spec_l2Plain
  refine Okk.loop (fun q : Int × Bd => ∃ i : Nat, q.1 = i ∧ i ≤ s.length ∧ q.2.length = i ∧ ∀ j < i, q.2.getD j [] = plainAt s j) (fun q : Int × Bd => s.length - q.1.toNat) ⟨0, rfl, by omega, rfl, by omega⟩ ?_
  rintro ⟨_, o⟩ ⟨i, rfl, h1, h2, h3⟩
  simp only at h2 h3
  simp only [F_spec_l2Plain_l1]
  by_cases hi : i < s.length
  · have hw : IntKind.i64.wrap ((i : Int) + 1) = i + 1 := w64 (by omega) (by omega)
    have hw2 : IntKind.i64.wrap (-1 - (i : Int)) = -1 - i := w64 (by omega) (by omega)
    have hm : (o.length + 1) * 24 ≤ 140737488355328 := by omega
    have hg : s.getD i [] = s[i] := getD_get hi
    have step : ∀ u : List Int, plainAt s i = u → Okk True (some (Sum.inl ((i : Int) + 1, o ++ [u])) : Option ((Int × Bd) ⊕ Bd)) (Rnd (fun q : Int × Bd => ∃ i : Nat, q.1 = i ∧ i ≤ s.length ∧ q.2.length = i ∧ ∀ j < i, q.2.getD j [] = plainAt s j) (fun q : Int × Bd => s.length - q.1.toNat) (fun o => o.length ≤ 24 ∧ ∀ i, o.getD i [] = plainAt s i) (s.length - i)) := fun u hu =>
      .some ⟨⟨i + 1, by simp, by omega, by simp [h2], fun j hj => by
        rw [getD_append]
        split
        · exact h3 j (by omega)
        · rw [if_pos (by omega), show j = i by omega, hu]⟩, by simp; omega⟩
    simp only [show (i : Int) < s.length by omega, decide_true, if_true, F_spec_l2Gives_eq hs hl (i := i) (by omega), Option.bind_some, hm, hw, hw2]
    by_cases h0 : s[i] = []
    · simp only [hg, h0, if_true, List.length_singleton, Int.natCast_one, beq_self_eq_true, Int.le_refl, show (0 : Int) < 1 by omega, and_self, List.getD_cons_zero]
      exact step [] (by unfold plainAt; rw [hg, if_pos (.inl h0)])
    · simp only [hg, h0, if_false]
      by_cases hlen : s[i].length = 1
      · obtain ⟨x, hx⟩ := List.length_eq_one_iff.1 hlen
        simp only [hx, List.length_singleton, Int.natCast_one, beq_self_eq_true, if_true, Int.le_refl, show (0 : Int) < 1 by omega, and_self, List.getD_cons_zero]
        by_cases e : x = -1 - (i : Int)
        · simp only [e, beq_self_eq_true, if_true]
          exact step [] (by unfold plainAt; rw [hg, if_pos (.inr (by rw [hx, e]))])
        · have : ¬ (x == -1 - (i : Int)) = true := by simpa using e
          simp only [this, if_false]
          exact step [x] (by unfold plainAt; rw [hg, hx, if_neg (by simp [e])])
      · have : ¬ ((s[i].length : Int) == 1) = true := by simp only [beq_iff_eq]; omega
        simp only [this, if_false]
        refine step s[i] ?_
        unfold plainAt
        rw [hg, if_neg]
        rintro (h | h)
        · exact h0 h
        · exact hlen (by rw [h]; rfl)
  · simp only [show ¬ (i : Int) < s.length by omega, decide_false, Bool.false_eq_true, if_false]
    have hall : ∀ j, o.getD j [] = plainAt s j := fun j => by
      by_cases hj : j < i
      · exact h3 j hj
      · rw [getD_out (by omega)]; unfold plainAt; rw [getD_out (s := s) (by omega)]; simp
    refine Okk.inr ?_
    simp only [Rnd]
    refine Okk.loop (fun o' : Bd => o'.length ≤ 24 ∧ ∀ j, o'.getD j [] = plainAt s j) (fun o' : Bd => o'.length) ⟨by omega, hall⟩ ?_
    rintro o' ⟨h4, h5⟩
    simp only [F_spec_l2Plain_l2]
    by_cases h6 : 0 < o'.length
    · have hw : IntKind.i64.wrap ((o'.length : Int) - 1) = o'.length - 1 := w64 (by omega) (by omega)
      have ht : ((o'.length : Int) - 1).toNat = o'.length - 1 := by omega
      have hlt : o'.length - 1 < o'.length := by omega
      simp only [show (0 : Int) < o'.length by omega, decide_true, if_true, hw, show 0 ≤ (o'.length : Int) - 1 by omega, show (o'.length : Int) - 1 < o'.length by omega, show (o'.length : Int) - 1 ≤ o'.length by omega, and_self, ht, getD_get hlt]
      by_cases h7 : o'[o'.length - 1] = []
      · simp only [h7, List.length_nil, Int.natCast_zero, beq_self_eq_true, if_true]
        refine .some ⟨⟨by simp; omega, fun j => ?_⟩, by simp; omega⟩
        rw [← h5 j, List.getD_eq_getElem?_getD, List.getD_eq_getElem?_getD, List.getElem?_take]
        split
        · rfl
        · by_cases hj : j = o'.length - 1
          · subst hj; rw [List.getElem?_eq_getElem hlt, h7]; rfl
          · rw [List.getElem?_eq_none (by omega)]
      · have := List.length_pos_iff.2 h7
        have : ¬ ((o'[o'.length - 1].length : Int) == 0) = true := by simp only [beq_iff_eq]; omega
        simp only [this, if_false, Option.map_some]
        exact .some ⟨h4, h5⟩
    · simp only [show ¬ (0 : Int) < o'.length by omega, decide_false, Bool.false_eq_true, if_false, Option.map_some]
      exact .some ⟨h4, h5⟩
theorem F_spec_l4Match_ok {a p t : List Int} (ha : sigOk a = true) (hp : Wf a 1 p) (ht : Wf a 1 t) (hpl : p.length ≤ 60) (htl : t.length ≤ 60) : Okk True (F_spec_l4Match a p t) (MRes (mat a p t none24)) := by
  have hn : ∀ u ∈ none24, u.length ≤ 60 := by intro u hu; simp [none24] at hu; subst hu; simp
  unfold F_spec_l4Match
  rw [show (List.replicate 24 [] : Bd) = none24 from rfl]
  refine Okk.loop (fun s : Int × Int × Bd => ∃ i c : Nat, s.1 = (c : Int) ∧ s.2.1 = (i : Int) ∧ MSt a p t none24 s.2.2 i c) (fun s : Int × Int × Bd => p.length - s.2.1.toNat)
    ⟨0, 0, rfl, rfl, by omega, by omega, by simp [none24], hn, ⟨1, by simpa using hp, by simpa using ht⟩, by simp⟩ ?_
  rintro ⟨_, _, b⟩ ⟨i, c, rfl, rfl, h⟩
  simp only at h
  have hb := h.hb
  simp only [F_spec_l4Match_l1]
  by_cases hi : i < p.length
  · have hc := h.at_lt hi
    simp only [show (i : Int) < p.length by omega, show ¬ (t.length : Int) ≤ c by omega, decide_true, decide_false, if_true, show (0 : Int) ≤ i by omega, show (0 : Int) ≤ c by omega, show (c : Int) < t.length by omega, and_self,
      Bool.false_eq_true, if_false, Int.toNat_natCast, getD_get hi, getD_get hc, w64 (n := (i : Int) + 1) (by omega) (by omega), w64 (n := (c : Int) + 1) (by omega) (by omega)]
    by_cases hn : p[i] < 0
    · obtain ⟨u, r, e, hu, hl, ho, hm, hk⟩ := h.var hi hn
      have hul := hu.len
      have hx : -24 ≤ p[i] := ho.1
      have hlt : (-1 - p[i]).toNat < b.length := by omega
      simp only [show ¬ 0 ≤ p[i] by omega, decide_false, Bool.false_eq_true, if_false, F_spec_l1Sub_eq ha (show Small t by show t.length < _; omega) e hu, Option.bind_some,
        w64 (n := -1 - p[i]) (by omega) (by omega), show 0 ≤ -1 - p[i] by omega, show -1 - p[i] < 24 by omega, and_self, if_true, hb, show ((-1 : Int) - p[i] < ((24 : Nat) : Int)) by omega,
        w64 (n := (c : Int) + u.length) (by omega) (by omega)]
      have eg : b.getD (-1 - p[i]).toNat default = bget b p[i] := rfl
      rw [eg]
      by_cases h0 : bget b p[i] = []
      · rw [if_pos h0] at hm
        simp only [h0, List.length_nil, Int.natCast_zero, Int.lt_irrefl, decide_false, Bool.false_eq_true, if_false]
        exact .some ⟨⟨i + 1, c + u.length, by simp, by simp, by omega, by omega, by simpa using hb, bset_small h.hsm (by omega), hk, by rw [hm]; rfl⟩, by simp; omega⟩
      · rw [if_neg h0] at hm
        have hp0 := List.length_pos_iff.2 h0
        simp only [show (0 : Int) < ((bget b p[i]).length : Int) by omega, decide_true, if_true, F_spec_SameTerm_eq (show Small (bget b p[i]) by show List.length _ < _; have := bget_small (n := p[i]) h.hsm; omega), Option.bind_some]
        by_cases h1 : bget b p[i] = u
        · rw [if_pos h1] at hm
          simp only [h1, beq_self_eq_true, if_true]
          have hset : b.set (-1 - p[i]).toNat u = b := by
            have : b[(-1 - p[i]).toNat] = u := by rw [← h1]; exact (getD_get hlt).symm
            rw [← this]; exact List.set_getElem_self hlt
          rw [hset]
          exact .some ⟨⟨i + 1, c + u.length, by simp, by simp, by omega, by omega, hb, h.hsm, hk, hm.symm⟩, by simp; omega⟩
        · rw [if_neg h1] at hm
          have : ¬ (bget b p[i] == u) = true := by simpa using h1
          simp only [this, if_false, Option.map_some]
          refine .some ?_
          simp only [Rnd, MRes, hm]
    · obtain ⟨hc', ho, hm, hk⟩ := h.sym hi hn
      simp only [show 0 ≤ p[i] by omega, decide_true, if_true]
      by_cases e : t[c] = p[i]
      · rw [if_pos e] at hm
        simp only [e, bne_self_eq_false, Bool.false_eq_true, if_false]
        exact .some ⟨⟨i + 1, c + 1, by simp, by simp, by omega, by omega, hb, h.hsm, hk e, hm.symm⟩, by simp; omega⟩
      · rw [if_neg e] at hm
        have : (p[i] != t[c]) = true := by simpa using fun h => e h.symm
        simp only [this, if_true, Option.map_some]
        refine .some ?_
        simp only [Rnd, MRes, hm]
  · have hm := h.m
    rw [List.drop_of_length_le (by omega), mat_nil] at hm
    simp only [show ¬ (i : Int) < p.length by omega, decide_false, Bool.false_eq_true, if_false, hb, if_true]
    refine Okk.inr ?_
    refine Okk.bind (F_spec_l2Plain_ok (by omega) h.hsm) fun o ho => .some ?_
    simp only [Rnd, MRes, ← hm]
    exact ⟨trivial, ho.1, ho.2⟩
theorem sub_take {σ : Int → List Int} {t : List Int} {i : Nat} (hi : i < t.length) : sub σ (t.take (i + 1)) = sub σ (t.take i) ++ (if t[i] < 0 then σ t[i] else [t[i]]) := by
  rw [List.take_add_one, List.getElem?_eq_getElem hi, sub_app]
  simp [sub]
theorem sub_take_le {σ : Int → List Int} {t : List Int} {i : Nat} : (sub σ (t.take i)).length ≤ (sub σ t).length := by
  have : sub σ t = sub σ (t.take i) ++ sub σ (t.drop i) := by rw [← sub_app, List.take_append_drop]
  rw [this]; simp
def fillO (σ : Int → List Int) (t : List Int) : Option (List Int) := if (sub σ t).length ≤ 60 then some (sub σ t) else none
def encO (o : Option (List Int)) : List Int × Bool := match o with | some x => (x, true) | none => ([], false)
theorem F_impl_byVar_eq {s : Bd} (hl : s.length ≤ 24) {i : Nat} (hi : i ≤ 24) : F_impl_Subst_byVar s i = some (s.getD i []) := by
  unfold F_impl_Subst_byVar
  by_cases h : i < s.length
  · have hg : s.getD i [] = s[i] := getD_get h
    simp only [show ¬ (s.length : Int) ≤ i by omega, decide_false, Bool.false_eq_true, if_false, show (0 : Int) ≤ i by omega, show (i : Int) < s.length by omega, and_self, if_true, Int.toNat_natCast, getD_get h, hg]
    by_cases h0 : s[i] = []
    · simp [h0]
    · have := List.length_pos_iff.2 h0
      have h2 : ¬ ((s[i].length : Int) == 0) = true := by simp only [beq_iff_eq]; omega
      simp only [h2, Bool.false_eq_true, if_false, this, if_true]
  · simp only [show (s.length : Int) ≤ i by omega, decide_true, if_true, getD_out (s := s) (i := i) (by omega)]
theorem fill_step {σ : Int → List Int} {t : List Int} {i : Nat} (hi : i < t.length) {out u : List Int} (ho : out = sub σ (t.take i)) (hu : u = if t[i] < 0 then σ t[i] else [t[i]]) :
    (60 < (out ++ u).length → fillO σ t = none) ∧ out ++ u = sub σ (t.take (i + 1)) := by
  have e : out ++ u = sub σ (t.take (i + 1)) := by rw [sub_take hi, ho, hu]
  refine ⟨fun h => ?_, e⟩
  rw [e] at h
  unfold fillO
  rw [if_neg]
  have := sub_take_le (σ := σ) (t := t) (i := i + 1)
  omega
theorem F_impl_fill_eq {s : Bd} {t : List Int} (hl : s.length ≤ 24) (hs : ∀ i, (s.getD i []).length ≤ 60) (ht : t.length ≤ 60) (hx : ∀ x ∈ t, -24 ≤ x) : F_impl_fill s t = some (encO (fillO (Tm.sig s) t)) := by
  have key : Okk True (F_impl_fill s t) (· = encO (fillO (Tm.sig s) t)) := by
    unfold F_impl_fill
    simp only [F_impl_Subst_lookup, Option.bind_some, show 0 ≤ (t.length : Int) ∧ 8 * (t.length : Int) ≤ 281474976710656 by omega, and_self, if_true]
    refine Okk.loop (fun q : List Int × Int => ∃ i : Nat, q.2 = i ∧ i ≤ t.length ∧ q.1 = sub (Tm.sig s) (t.take i) ∧ q.1.length ≤ 60) (fun q : List Int × Int => t.length - q.2.toNat) ⟨0, rfl, by omega, by simp [sub], by simp⟩ ?_
    rintro ⟨out, _⟩ ⟨i, rfl, h1, h2, h3⟩
    simp only at h2 h3
    simp only [F_impl_fill_l1]
    by_cases hi : i < t.length
    · have hxi := hx _ (List.getElem_mem hi)
      simp only [show (i : Int) < t.length by omega, decide_true, if_true, show (0 : Int) ≤ i by omega, and_self, Int.toNat_natCast, getD_get hi, w64 (n := (i : Int) + 1) (by omega) (by omega)]
      have fin : ∀ u : List Int, u.length ≤ 60 → u = (if t[i] < 0 then Tm.sig s t[i] else [t[i]]) → Okk True (if decide (60 < ((out ++ u).length : Int)) = true then Option.map Sum.inr (some (([] : List Int), false)) else some (Sum.inl (out ++ u, (i : Int) + 1)))
          (Rnd (fun q : List Int × Int => ∃ i : Nat, q.2 = i ∧ i ≤ t.length ∧ q.1 = sub (Tm.sig s) (t.take i) ∧ q.1.length ≤ 60) (fun q : List Int × Int => t.length - q.2.toNat) (· = encO (fillO (Tm.sig s) t)) (t.length - i)) := fun u hu e => by
        obtain ⟨h4, h5⟩ := fill_step hi h2 e
        by_cases h6 : 60 < (out ++ u).length
        · simp only [show (60 : Int) < ((out ++ u).length : Int) by omega, decide_true, if_true, Option.map_some]
          refine .some ?_
          simp only [Rnd, h4 h6, encO]
        · simp only [show ¬ (60 : Int) < ((out ++ u).length : Int) by omega, decide_false, Bool.false_eq_true, if_false]
          exact .some ⟨⟨i + 1, by simp, by omega, h5, by simp only; omega⟩, by simp; omega⟩
      unfold F_impl_Subst_lookup_1
      by_cases hn : t[i] < 0
      · have hi24 : ((-1 - t[i]).toNat : Int) = -1 - t[i] := by omega
        simp only [show ¬ 0 ≤ t[i] by omega, decide_false, Bool.false_eq_true, if_false, w64 (n := -1 - t[i]) (by omega) (by omega)]
        rw [← hi24, F_impl_byVar_eq hl (by omega), Option.bind_some, Option.bind_some]
        have hb : s.getD (-1 - t[i]).toNat [] = bget s t[i] := rfl
        rw [hb]
        have hbl : (bget s t[i]).length ≤ 60 := hs _
        by_cases h0 : bget s t[i] = []
        · simp only [h0, List.isEmpty_nil, if_true, show (out.length + 1) * 8 ≤ 140737488355328 by omega]
          exact fin [t[i]] (by simp) (by rw [if_pos hn]; unfold Tm.sig; rw [if_pos h0])
        · have : ¬ (bget s t[i]).isEmpty = true := by simpa using h0
          simp only [this, if_false, show (out.length + (bget s t[i]).length) * 8 ≤ 140737488355328 by omega, if_true]
          exact fin (bget s t[i]) hbl (by rw [if_pos hn]; unfold Tm.sig; rw [if_neg h0])
      · simp only [show 0 ≤ t[i] by omega, decide_true, if_true, Option.bind_some, List.isEmpty_nil, show (out.length + 1) * 8 ≤ 140737488355328 by omega]
        exact fin [t[i]] (by simp) (by rw [if_neg hn])
    · simp only [show ¬ (i : Int) < t.length by omega, decide_false, Bool.false_eq_true, if_false, Option.map_some]
      refine .some ?_
      rw [List.take_of_length_le (by omega)] at h2
      simp only [Rnd, fillO, ← h2, h3, if_true, encO]
  exact key.eq
theorem F_spec_l2Filled_eq {s : Bd} {t : List Int} (hl : s.length ≤ 24) (hs : ∀ u ∈ s, u.length ≤ 60) (ht : t.length ≤ 60) (hx : ∀ x ∈ t, -24 ≤ x) : F_spec_l2Filled s t = some (encO (fillO (Tm.sig s) t)) := by
  have key : Okk True (F_spec_l2Filled s t) (· = encO (fillO (Tm.sig s) t)) := by
    unfold F_spec_l2Filled
    refine Okk.loop (fun q : List Int × Int => ∃ i : Nat, q.2 = i ∧ i ≤ t.length ∧ q.1 = sub (Tm.sig s) (t.take i) ∧ q.1.length ≤ 60) (fun q : List Int × Int => t.length - q.2.toNat) ⟨0, rfl, by omega, by simp [sub], by simp⟩ ?_
    rintro ⟨out, _⟩ ⟨i, rfl, h1, h2, h3⟩
    simp only at h2 h3
    simp only [F_spec_l2Filled_l1]
    by_cases hi : i < t.length
    · have hxi := hx _ (List.getElem_mem hi)
      simp only [show (i : Int) < t.length by omega, decide_true, if_true, show (0 : Int) ≤ i by omega, and_self, Int.toNat_natCast, getD_get hi, w64 (n := (i : Int) + 1) (by omega) (by omega)]
      have fin : ∀ u : List Int, u.length ≤ 60 → u = (if t[i] < 0 then Tm.sig s t[i] else [t[i]]) → Okk True (if decide (60 < ((out ++ u).length : Int)) = true then Option.map Sum.inr (some (([] : List Int), false)) else some (Sum.inl (out ++ u, (i : Int) + 1)))
          (Rnd (fun q : List Int × Int => ∃ i : Nat, q.2 = i ∧ i ≤ t.length ∧ q.1 = sub (Tm.sig s) (t.take i) ∧ q.1.length ≤ 60) (fun q : List Int × Int => t.length - q.2.toNat) (· = encO (fillO (Tm.sig s) t)) (t.length - i)) := fun u hu e => by
        obtain ⟨h4, h5⟩ := fill_step hi h2 e
        by_cases h6 : 60 < (out ++ u).length
        · simp only [show (60 : Int) < ((out ++ u).length : Int) by omega, decide_true, if_true, Option.map_some]
          refine .some ?_
          simp only [Rnd, h4 h6, encO]
        · simp only [show ¬ (60 : Int) < ((out ++ u).length : Int) by omega, decide_false, Bool.false_eq_true, if_false]
          exact .some ⟨⟨i + 1, by simp, by omega, h5, by simp only; omega⟩, by simp; omega⟩
      by_cases hn : t[i] < 0
      · have hi24 : ((-1 - t[i]).toNat : Int) = -1 - t[i] := by omega
        simp only [hn, decide_true, if_true, w64 (n := -1 - t[i]) (by omega) (by omega)]
        rw [← hi24, F_spec_l2Gives_eq hs hl (by omega), Option.bind_some, hi24]
        have hb : s.getD (-1 - t[i]).toNat [] = bget s t[i] := rfl
        rw [hb]
        have hbl : (bget s t[i]).length ≤ 60 := bget_small hs
        by_cases h0 : bget s t[i] = []
        · simp only [h0, if_true, List.length_singleton, show (out.length + 1) * 8 ≤ 140737488355328 by omega, show -1 - (-1 - t[i]) = t[i] by omega]
          exact fin [t[i]] (by simp) (by rw [if_pos hn]; unfold Tm.sig; rw [if_pos h0])
        · simp only [h0, if_false, show (out.length + (bget s t[i]).length) * 8 ≤ 140737488355328 by omega, if_true]
          exact fin (bget s t[i]) hbl (by rw [if_pos hn]; unfold Tm.sig; rw [if_neg h0])
      · simp only [hn, decide_false, Bool.false_eq_true, if_false, show (out.length + 1) * 8 ≤ 140737488355328 by omega, if_true]
        exact fin [t[i]] (by simp) (by rw [if_neg hn])
    · simp only [show ¬ (i : Int) < t.length by omega, decide_false, Bool.false_eq_true, if_false, Option.map_some]
      refine .some ?_
      rw [List.take_of_length_le (by omega)] at h2
      simp only [Rnd, fillO, ← h2, h3, if_true, encO]
  exact key.eq
theorem F_slices_Concat_eq {xs : List (List Int)} (hl : xs.length ≤ 3) (hs : ∀ u ∈ xs, u.length ≤ 60) : F_slices_Concat_int64_int64 xs = some xs.flatten := by
  have hfl : ∀ i, i ≤ xs.length → (xs.take i).flatten.length ≤ 60 * i := fun i => by
    induction i with
    | zero => simp
    | succ i ih =>
      intro hi
      have h1 : i < xs.length := by omega
      rw [List.take_add_one, List.getElem?_eq_getElem h1, List.flatten_append, List.length_append]
      have := ih (by omega)
      have := hs _ (List.getElem_mem h1)
      simp only [Option.toList_some, List.flatten_cons, List.flatten_nil, List.append_nil]; omega
  have tk : ∀ i (h1 : i < xs.length), (xs.take (i + 1)).flatten = (xs.take i).flatten ++ xs[i] := fun i h1 => by
    rw [List.take_add_one, List.getElem?_eq_getElem h1, List.flatten_append]; simp
  have key : Okk True (F_slices_Concat_int64_int64 xs) (· = xs.flatten) := by
    unfold F_slices_Concat_int64_int64
    refine Okk.loop (fun q : Int × Int => ∃ i : Nat, q.2 = i ∧ i ≤ xs.length ∧ q.1 = ((xs.take i).flatten.length : Int)) (fun q : Int × Int => xs.length - q.2.toNat) ⟨0, rfl, by omega, by simp⟩ ?_
    rintro ⟨_, _⟩ ⟨i, rfl, h1, rfl⟩
    simp only [F_slices_Concat_int64_int64_l1]
    have hb := hfl i h1
    by_cases hi : i < xs.length
    · have hu := hs _ (List.getElem_mem hi)
      simp only [show (i : Int) < xs.length by omega, decide_true, if_true, show (0 : Int) ≤ i by omega, and_self, Int.toNat_natCast, getD_get hi, w64 (n := (i : Int) + 1) (by omega) (by omega),
        w64 (n := ((xs.take i).flatten.length : Int) + (xs[i].length : Int)) (by omega) (by omega), show ¬ ((xs.take i).flatten.length : Int) + (xs[i].length : Int) < 0 by omega, decide_false, Bool.false_eq_true, if_false]
      exact .some ⟨⟨i + 1, by simp, by omega, by rw [tk i hi]; simp⟩, by simp; omega⟩
    · simp only [show ¬ (i : Int) < xs.length by omega, decide_false, Bool.false_eq_true, if_false, F_slices_Grow_int64_int64, show 0 ≤ ((xs.take i).flatten.length : Int) ∧ ((xs.take i).flatten.length : Int) * 8 ≤ 140737488355328 by omega, and_self, if_true, Option.bind_some]
      refine Okk.inr ?_
      simp only [Rnd]
      refine Okk.loop (fun q : List Int × Int => ∃ i : Nat, q.2 = i ∧ i ≤ xs.length ∧ q.1 = (xs.take i).flatten) (fun q : List Int × Int => xs.length - q.2.toNat) ⟨0, rfl, by omega, by simp⟩ ?_
      rintro ⟨_, _⟩ ⟨j, rfl, h2, rfl⟩
      simp only [F_slices_Concat_int64_int64_l2]
      have hb := hfl j h2
      by_cases hj : j < xs.length
      · have hu := hs _ (List.getElem_mem hj)
        simp only [show (j : Int) < xs.length by omega, decide_true, if_true, show (0 : Int) ≤ j by omega, and_self, Int.toNat_natCast, getD_get hj, w64 (n := (j : Int) + 1) (by omega) (by omega),
          show ((xs.take j).flatten.length + xs[j].length) * 8 ≤ 140737488355328 by omega]
        exact .some ⟨⟨j + 1, by simp, by omega, by rw [tk j hj]⟩, by simp; omega⟩
      · simp only [show ¬ (j : Int) < xs.length by omega, decide_false, Bool.false_eq_true, if_false, Option.map_some]
        refine .some ?_
        simp only [Rnd]
        rw [List.take_of_length_le (by omega)]
  exact key.eq
def putO (a t : List Int) (i : Nat) (v : List Int) : Option (List Int) := if (putp a t i v).length ≤ 60 then some (putp a t i v) else none
theorem F_impl_put_eq {a p u s v : List Int} (ha : sigOk a = true) (hu : Wf a 1 u) (hm : ∀ x ∈ p ++ (u ++ s), -24 ≤ x) (hl : (p ++ (u ++ s)).length ≤ 60) (hv : v.length ≤ 60) :
    F_impl_put a (p ++ (u ++ s)) (p.length : Int) v = some (encO (putO a (p ++ (u ++ s)) p.length v)) := by
  have hd : (p ++ (u ++ s)).drop p.length = u ++ s := List.drop_left
  have hl' := hl
  simp only [List.length_append] at hl'
  unfold F_impl_put
  rw [if_pos (by simp only [List.length_append]; omega), F_impl_endAt_eq ha (by show List.length _ < _; omega) hm (by simp), Option.bind_some, endI_app hd hu]
  have e1 : ((p ++ (u ++ s)).length : Int) - s.length = ((p.length + u.length : Nat) : Int) := by simp; omega
  rw [e1, if_pos (by simp; omega), Int.toNat_natCast, Int.toNat_natCast, List.take_left, ← List.drop_drop, hd, List.drop_left]
  rw [F_slices_Concat_eq (by simp) (by intro w hw; simp at hw; rcases hw with rfl | rfl | rfl <;> omega), Option.bind_some]
  unfold putO
  rw [putp_eq hu]
  have e2 : [p, v, s].flatten = p ++ (v ++ s) := by simp
  rw [e2]
  by_cases h : (p ++ (v ++ s)).length ≤ 60
  · simp only [show ¬ (60 : Int) < ((p ++ (v ++ s)).length : Int) by omega, decide_false, Bool.false_eq_true, if_false, h, if_true, encO]
  · simp only [show (60 : Int) < ((p ++ (v ++ s)).length : Int) by omega, decide_true, if_true, h, if_false, encO]
theorem F_spec_l3Put_eq {a p u s v : List Int} (ha : sigOk a = true) (hu : Wf a 1 u) (hl : (p ++ (u ++ s)).length ≤ 60) (hv : v.length ≤ 60) :
    F_spec_l3Put a (p ++ (u ++ s)) (p.length : Int) v = some (encO (putO a (p ++ (u ++ s)) p.length v)) := by
  have hd : (p ++ (u ++ s)).drop p.length = u ++ s := List.drop_left
  have hl' := hl
  simp only [List.length_append] at hl'
  unfold F_spec_l3Put
  rw [if_pos (by simp only [List.length_append]; omega), Int.toNat_natCast, List.take_left, F_spec_l1Copy_eq (by show List.length _ < _; omega), Option.bind_some, if_pos (by omega), F_spec_l1End_eq ha (by show List.length _ < _; omega) (by simp), Option.bind_some, endI_app hd hu]
  have e1 : ((p ++ (u ++ s)).length : Int) - s.length = ((p.length + u.length : Nat) : Int) := by simp; omega
  rw [e1, if_pos (by simp; omega), Int.toNat_natCast, ← List.drop_drop, hd, List.drop_left, if_pos (by simp; omega), List.append_assoc]
  unfold putO
  rw [putp_eq hu]
  by_cases h : (p ++ (v ++ s)).length ≤ 60
  · simp only [show ¬ (60 : Int) < ((p ++ (v ++ s)).length : Int) by omega, decide_false, Bool.false_eq_true, if_false, h, if_true, encO]
  · simp only [show (60 : Int) < ((p ++ (v ++ s)).length : Int) by omega, decide_true, if_true, h, if_false, encO]
abbrev Sys := List Int × List (List Int × List Int)
theorem sysOk_iff {s : Sys} : sysOk s = true ↔ sigOk s.1 = true ∧ s.2.length ≤ 12 ∧ ∀ r ∈ s.2, ruleOk s.1 r = true := by simp [sysOk]
theorem ruleOk_iff {a : List Int} {r : List Int × List Int} : ruleOk a r = true ↔ termOk a r.1 = true ∧ termOk a r.2 = true ∧ 0 ≤ r.1.headD 0 ∧ ∀ x ∈ r.2, x < 0 → x ∈ r.1 := by
  simp only [ruleOk, varIn, Bool.and_eq_true, decide_eq_true_eq, List.all_eq_true]
def stepO (s : Sys) (t : List Int) (i rule : Nat) : Option (List Int) := stepp s.1 (s.2.getD rule default).1 (s.2.getD rule default).2 t i
theorem plain_small {b o : Bd} (hb : ∀ u ∈ b, u.length ≤ 60) (h : ∀ i, o.getD i [] = plainAt b i) : (∀ i, (o.getD i []).length ≤ 60) ∧ ∀ u ∈ o, u.length ≤ 60 := by
  have h1 : ∀ i, (o.getD i []).length ≤ 60 := fun i => by
    rw [h]
    unfold plainAt
    split
    · simp
    · rw [List.getD_eq_getElem?_getD]
      cases hx : b[i]? with
      | none => simp
      | some u => exact hb u (List.mem_of_getElem? hx)
  refine ⟨h1, fun u hu => ?_⟩
  obtain ⟨i, hi, rfl⟩ := List.getElem_of_mem hu
  have := h1 i
  rwa [show o.getD i [] = o[i] from getD_get hi] at this
theorem fill_plain {b o : Bd} (h : ∀ i, o.getD i [] = plainAt b i) (t : List Int) : fillO (Tm.sig o) t = fillO (Tm.sig b) t := by
  unfold fillO
  rw [sub_congr fun x _ hx => plain_sig h hx]
theorem stepp_eq {a l r p u s : List Int} (hu : Wf a 1 u) : stepp a l r (p ++ (u ++ s)) p.length = (mat a l u none24).bind fun b => (fillO (Tm.sig b) r).bind fun v => putO a (p ++ (u ++ s)) p.length v := by
  unfold stepp
  rw [at_eq hu]
  congr 1
  funext b
  unfold fillO putO
  by_cases h1 : (sub (Tm.sig b) r).length ≤ 60
  · rw [if_pos h1, Option.bind_some]
    by_cases h2 : (putp a (p ++ (u ++ s)) p.length (sub (Tm.sig b) r)).length ≤ 60
    · rw [if_pos ⟨h1, h2⟩, if_pos h2]
    · rw [if_neg (fun h => h2 h.2), if_neg h2]
  · rw [if_neg (fun h => h1 h.1), if_neg h1]; rfl
theorem F_impl_step_eq {s : Sys} {t : List Int} {i rule : Nat} (hs : sysOk s = true) (ht : termOk s.1 t = true) (hi : i < t.length) (hr : rule < s.2.length) : F_impl_step s t i rule = some (encO (stepO s t i rule)) := by
  obtain ⟨ha, _, hrs⟩ := sysOk_iff.1 hs
  obtain ⟨_, h1, h2, hw⟩ := termOk_iff.1 ht
  obtain ⟨p, u, q, rfl, rfl, hu⟩ := hw.place hi
  have hrule := ruleOk_iff.1 (hrs _ (getD_mem hr))
  obtain ⟨hL, hR, _, hv⟩ := hrule
  obtain ⟨_, hL1, hL2, hL3⟩ := termOk_iff.1 hL
  obtain ⟨_, hR1, hR2, hR3⟩ := termOk_iff.1 hR
  have hm : ∀ x ∈ p ++ (u ++ q), -24 ≤ x := fun x hx => (hw.all x hx).1
  have hul : u.length ≤ 60 := by simp at h2; omega
  unfold F_impl_step stepO
  rw [if_pos (by omega), F_impl_subAt_eq ha (by show List.length _ < _; omega) hm List.drop_left hu, Option.bind_some, Int.toNat_natCast]
  obtain ⟨o, e1, e2⟩ := (F_impl_match_ok ha hL3 hu hL2 hul).get
  rw [e1, Option.bind_some, stepp_eq hu]
  cases hmat : mat s.1 (s.2.getD rule default).1 u none24 with
  | none =>
    rw [hmat] at e2
    simp only [MRes] at e2
    simp only [e2, Bool.false_eq_true, if_false, Option.bind_none, encO]
  | some b =>
    rw [hmat] at e2
    obtain ⟨e3, e4, e5⟩ := e2
    obtain ⟨hb1, hb2⟩ := mat_small hmat (by intro u hu; simp [none24] at hu; subst hu; simp) hul (by simp [none24])
    obtain ⟨hp1, hp2⟩ := plain_small hb2 e5
    rw [if_pos e3, if_pos (by omega), F_impl_fill_eq e4 hp1 hR2 (fun x hx => (hR3.all x hx).1), Option.bind_some, Option.bind_some, fill_plain e5]
    cases hf : fillO (Tm.sig b) (s.2.getD rule default).2 with
    | none => simp [encO]
    | some v =>
      have hv60 : v.length ≤ 60 := by
        unfold fillO at hf
        split at hf
        · rename_i h; cases hf; exact h
        · cases hf
      simp only [encO, if_true, Option.bind_some]
      rw [F_impl_put_eq ha hu hm h2 hv60]; rfl
theorem F_spec_l7Step_eq {s : Sys} {t : List Int} {i rule : Nat} (hs : sysOk s = true) (ht : termOk s.1 t = true) (hi : i < t.length) (hr : rule < s.2.length) : F_spec_l7Step s t i rule = some (encO (stepO s t i rule)) := by
  obtain ⟨ha, _, hrs⟩ := sysOk_iff.1 hs
  obtain ⟨_, h1, h2, hw⟩ := termOk_iff.1 ht
  obtain ⟨p, u, q, rfl, rfl, hu⟩ := hw.place hi
  have hrule := ruleOk_iff.1 (hrs _ (getD_mem hr))
  obtain ⟨hL, hR, _, hv⟩ := hrule
  obtain ⟨_, hL1, hL2, hL3⟩ := termOk_iff.1 hL
  obtain ⟨_, hR1, hR2, hR3⟩ := termOk_iff.1 hR
  have hul : u.length ≤ 60 := by simp at h2; omega
  unfold F_spec_l7Step stepO
  rw [if_pos (by omega), F_spec_l1Sub_eq ha (by show List.length _ < _; omega) List.drop_left hu, Option.bind_some, Int.toNat_natCast]
  obtain ⟨o, e1, e2⟩ := (F_spec_l4Match_ok ha hL3 hu hL2 hul).get
  rw [e1, Option.bind_some, stepp_eq hu]
  cases hmat : mat s.1 (s.2.getD rule default).1 u none24 with
  | none =>
    rw [hmat] at e2
    simp only [MRes] at e2
    simp only [e2, Bool.false_eq_true, if_false, Option.bind_none, encO]
  | some b =>
    rw [hmat] at e2
    obtain ⟨e3, e4, e5⟩ := e2
    obtain ⟨hb1, hb2⟩ := mat_small hmat (by intro u hu; simp [none24] at hu; subst hu; simp) hul (by simp [none24])
    obtain ⟨hp1, hp2⟩ := plain_small hb2 e5
    rw [if_pos e3, F_spec_l2Filled_eq e4 hp2 hR2 (fun x hx => (hR3.all x hx).1), Option.bind_some, Option.bind_some, fill_plain e5]
    cases hf : fillO (Tm.sig b) (s.2.getD rule default).2 with
    | none => simp [encO]
    | some v =>
      have hv60 : v.length ≤ 60 := by
        unfold fillO at hf
        split at hf
        · rename_i h; cases hf; exact h
        · cases hf
      simp only [encO, if_true, Option.bind_some]
      rw [F_spec_l3Put_eq ha hu h2 hv60]; rfl
def stepAtO (s : Sys) (t : List Int) (i rule : Int) : Option (List Int) :=
  if (sysOk s = true ∧ termOk s.1 t = true) ∧ (0 ≤ i ∧ i < t.length) ∧ (0 ≤ rule ∧ rule < s.2.length) then stepO s t i.toNat rule.toNat else none
theorem F_spec_l7Right_eq (s : Sys) (t : List Int) : F_spec_l7Right s t = some (sysOk s && termOk s.1 t) := by
  unfold F_spec_l7Right
  rw [F_spec_SystemOk_eq, Option.bind_some]
  cases h1 : sysOk s with
  | false => simp
  | true => simp [F_spec_TermOk_eq]
theorem stepAtO_small {s : Sys} {t u : List Int} {i rule : Int} (h : stepAtO s t i rule = some u) : u.length ≤ 60 := by
  unfold stepAtO at h
  split at h
  · unfold stepO stepp at h
    obtain ⟨b, _, h⟩ := Option.bind_eq_some_iff.1 h
    split at h
    · rename_i hc; cases h; exact hc.2
    · cases h
  · cases h
abbrev Stp := Int × Int × List Int
end Go.Proofs.YtcbfefbocpikoaaGreat
namespace Go.Proofs.YtcbfefbocpikoaaGreat
open Go Abx Tm
abbrev Mvv := Int × Int × Bool × List Int
abbrev Chn := List Int × List Mvv
abbrev Eqq := List Int × List Int
def eqOkB (a : List Int) (e : Eqq) : Bool := termOk a e.1 && termOk a e.2
def eqsOkB (a : List Int) (eqs : List Eqq) : Bool := sigOk a && (decide (eqs.length ≤ 12) && eqs.all (eqOkB a))
theorem eqOk_iff {a : List Int} {e : Eqq} : eqOkB a e = true ↔ termOk a e.1 = true ∧ termOk a e.2 = true := by simp [eqOkB]
theorem eqsOk_iff {a : List Int} {eqs : List Eqq} : eqsOkB a eqs = true ↔ sigOk a = true ∧ eqs.length ≤ 12 ∧ ∀ e ∈ eqs, eqOkB a e = true := by simp [eqsOkB]
def sideF (eqs : List Eqq) (m : Mvv) : List Int := if m.2.2.1 = true then (eqs.getD m.1.toNat default).2 else (eqs.getD m.1.toNat default).1
def sideO (eqs : List Eqq) (m : Mvv) : List Int := if m.2.2.1 = true then (eqs.getD m.1.toNat default).1 else (eqs.getD m.1.toNat default).2
def inB (eqs : List Eqq) (t : List Int) (m : Mvv) : Prop := (0 ≤ m.1 ∧ m.1 < eqs.length) ∧ (0 ≤ m.2.1 ∧ m.2.1 < t.length) ∧ m.2.1 < m.2.2.2.length
instance (eqs : List Eqq) (t : List Int) (m : Mvv) : Decidable (inB eqs t m) := by unfold inB; infer_instance
def moveB (a : List Int) (eqs : List Eqq) (t : List Int) (m : Mvv) : Bool := decide (inB eqs t m) && (termOk a m.2.2.2 && mvB a (sideF eqs m) (sideO eqs m) t m.2.2.2 m.2.1.toNat)
theorem moveB_to {a : List Int} {eqs : List Eqq} {t : List Int} {m : Mvv} (h : moveB a eqs t m = true) : termOk a m.2.2.2 = true := by
  simp only [moveB, Bool.and_eq_true] at h; exact h.2.1
theorem moveB_iff {a : List Int} {eqs : List Eqq} {t : List Int} {m : Mvv} (he : eqsOkB a eqs = true) (ht : termOk a t = true) :
    moveB a eqs t m = true ↔ (0 ≤ m.1 ∧ m.1 < eqs.length) ∧ 0 ≤ m.2.1 ∧ termOk a m.2.2.2 = true ∧ Mv a (sideF eqs m) (sideO eqs m) t m.2.2.2 m.2.1.toNat := by
  obtain ⟨ha, hel, hall⟩ := eqsOk_iff.1 he
  obtain ⟨_, t1, t2, t3⟩ := termOk_iff.1 ht
  have sides : (0 ≤ m.1 ∧ m.1 < eqs.length) → Wf a 1 (sideF eqs m) ∧ Wf a 1 (sideO eqs m) := fun h => by
    obtain ⟨hL, hR⟩ := eqOk_iff.1 (hall _ (getD_mem (show m.1.toNat < eqs.length by omega)))
    unfold sideF sideO
    cases m.2.2.1 with
    | true => exact ⟨(termOk_iff.1 hR).2.2.2, (termOk_iff.1 hL).2.2.2⟩
    | false => exact ⟨(termOk_iff.1 hL).2.2.2, (termOk_iff.1 hR).2.2.2⟩
  simp only [moveB, Bool.and_eq_true, decide_eq_true_eq]
  unfold inB
  constructor
  · rintro ⟨⟨h1, h2, h3⟩, h4, h5⟩
    exact ⟨h1, h2.1, h4, (mvB_iff (sides h1).1 (sides h1).2 t3 (termOk_iff.1 h4).2.2.2 (by omega) (by omega)).1 h5⟩
  · rintro ⟨h1, h2, h4, h5⟩
    have h5' := h5
    obtain ⟨p, s, σ, hp, e1, e2, hσ⟩ := h5'
    have l1 := ((sides h1).1.sub fun x _ hx => hσ x hx).len
    have l2 := ((sides h1).2.sub fun x _ hx => hσ x hx).len
    have e1 := congrArg List.length e1
    have e2 := congrArg List.length e2
    simp only [List.length_append] at e1 e2
    exact ⟨⟨h1, ⟨h2, by omega⟩, by omega⟩, h4, (mvB_iff (sides h1).1 (sides h1).2 t3 (termOk_iff.1 h4).2.2.2 (by omega) (by omega)).2 h5⟩
theorem sys_eqs {s : Sys} (h : sysOk s = true) : eqsOkB s.1 s.2 = true := by
  obtain ⟨h1, h2, h3⟩ := sysOk_iff.1 h
  exact eqsOk_iff.2 ⟨h1, h2, fun e he => let h := ruleOk_iff.1 (h3 e he); eqOk_iff.2 ⟨h.1, h.2.1⟩⟩
theorem stepAt_move {s : Sys} {t u : List Int} {x : Stp} (h : stepAtO s t x.1 x.2.1 = some u) (hu : (u == x.2.2) = true) : moveB s.1 s.2 t (x.2.1, x.1, false, x.2.2) = true := by
  have hl := stepAtO_small h
  unfold stepAtO at h
  split at h
  · rename_i hc
    obtain ⟨⟨hs, ht⟩, hi, hr⟩ := hc
    obtain rfl : u = x.2.2 := by simpa using hu
    obtain ⟨_, _, h3⟩ := sysOk_iff.1 hs
    obtain ⟨hL, hR, _, hv⟩ := ruleOk_iff.1 (h3 _ (getD_mem (show x.2.1.toNat < s.2.length by omega)))
    have wL := (termOk_iff.1 hL).2.2.2
    have wR := (termOk_iff.1 hR).2.2.2
    obtain ⟨ha, _, _, wt⟩ := termOk_iff.1 ht
    obtain ⟨hm, _⟩ := stepp_mv wL wR wt (show x.1.toNat < t.length by omega) hv h
    have wu := hm.wf wL wR wt
    exact (moveB_iff (sys_eqs hs) ht).2 ⟨hr, hi.1, termOk_iff.2 ⟨ha, wu.len, hl, wu⟩, hm⟩
  · cases h
end Go.Proofs.YtcbfefbocpikoaaGreat
