/- What the equations of both sides come to: polynomials, bounds, walks; nothing is assumed. -/
import Derived.Test.YtcaljngigbfadaaGreatPa
import Derived.Test.YtcaljngigbfadaaGreatGd
set_option linter.unusedSimpArgs false
set_option linter.unusedVariables false
set_option linter.unusedSectionVars false
namespace Go.Proofs.YtcaljngigbfadaaGreat
open Go Abx Tm
/-! ### Forms: plain facts -/
theorem fms_app {a : List Int} {ps : List Fm} {v : List Int} : ∀ {u : List Int} {k : Nat}, Wf a k u → (fms a ps u).length = k ∧ fms a ps (u ++ v) = fms a ps u ++ fms a ps v
  | [], 0, _ => ⟨rfl, rfl⟩
  | [], k + 1, h => by simp [Wf, Tm.skip] at h
  | x :: u, 0, h => by have := h.zero; cases this
  | x :: u, k + 1, h => by
    obtain ⟨hx, h⟩ := Wf.cons_iff.1 h
    obtain ⟨h1, h2⟩ := fms_app (ps := ps) (v := v) h
    rw [List.cons_append]
    simp only [fms]
    by_cases hn : x < 0
    · have ha : ari a x = 0 := by simp [ari, hn]
      rw [if_pos hn, if_pos hn]
      simp [h1, h2, ha]
    · rw [if_neg hn, if_neg hn, h2]
      simp only [List.length_cons, List.length_drop, h1, List.cons_append]
      refine ⟨by omega, ?_⟩
      rw [List.take_append_of_le_length (by omega), List.drop_append_of_le_length (by omega)]
theorem wf_list {a : List Int} : ∀ {k : Nat} {r : List Int}, Wf a k r → ∃ us : List (List Int), us.length = k ∧ r = us.flatten ∧ ∀ u ∈ us, Wf a 1 u
  | 0, r, h => ⟨[], rfl, by rw [h.zero]; rfl, by simp⟩
  | k + 1, r, h => by
    rw [show k + 1 = 1 + k by omega] at h
    obtain ⟨u, v, rfl, h1, h2⟩ := h.split
    obtain ⟨us, h3, rfl, h4⟩ := wf_list h2
    exact ⟨u :: us, by simp [h3], rfl, by simpa using ⟨h1, h4⟩⟩
theorem fms_one {a : List Int} {ps : List Fm} {u : List Int} (h : Wf a 1 u) : fms a ps u = [fm a ps u] := by
  have := (fms_app (ps := ps) (v := []) h).1
  unfold fm
  match hf : fms a ps u, this with
  | [f], _ => rfl
theorem fms_flat {a : List Int} {ps : List Fm} : ∀ {us : List (List Int)}, (∀ u ∈ us, Wf a 1 u) → fms a ps us.flatten = us.map (fm a ps)
  | [], _ => rfl
  | u :: us, h => by
    rw [List.flatten_cons, (fms_app (h u (by simp))).2, fms_one (h u (by simp)), fms_flat fun v hv => h v (by simp [hv])]; rfl
theorem fm_var {a : List Int} {ps : List Fm} {x : Int} {t : List Int} (h : x < 0) : fm a ps (x :: t) = varF x := by simp [fm, fms, h]
theorem fm_sym {a : List Int} {ps : List Fm} {x : Int} {us : List (List Int)} (h : ¬ x < 0) (hu : ∀ u ∈ us, Wf a 1 u) (hl : us.length = ari a x) :
    fm a ps (x :: us.flatten) = appF ((ps.getD x.toNat default).1, []) (ps.getD x.toNat default).2 (us.map (fm a ps)) := by
  simp only [fm, fms, if_neg h, fms_flat hu, List.headD_cons]
  rw [List.take_of_length_le (by simp; omega)]
theorem zadd_getD (c : Int) : ∀ (xs ys : List Int) (i : Nat), (zadd c xs ys).getD i 0 = xs.getD i 0 + c * ys.getD i 0
  | [], ys, i => by
    simp only [zadd, List.getD_eq_getElem?_getD, List.getElem?_map]
    cases ys[i]? <;> simp
  | x :: xs, [], i => by simp [zadd]
  | x :: xs, y :: ys, 0 => by simp [zadd]
  | x :: xs, y :: ys, i + 1 => by simpa [zadd] using zadd_getD c xs ys i
theorem zadd_len (c : Int) : ∀ (xs ys : List Int), (zadd c xs ys).length = max xs.length ys.length
  | [], ys => by simp [zadd]
  | x :: xs, [] => by simp [zadd]
  | x :: xs, y :: ys => by simp only [zadd, List.length_cons, zadd_len c xs ys]; omega
def NN (f : Fm) : Prop := 0 ≤ f.1 ∧ ∀ i, 0 ≤ f.2.getD i 0
def LeF (f g : Fm) : Prop := f.1 ≤ g.1 ∧ ∀ i, f.2.getD i 0 ≤ g.2.getD i 0
theorem LeF.refl (f : Fm) : LeF f f := ⟨Int.le_refl _, fun _ => Int.le_refl _⟩
theorem LeF.trans {f g h : Fm} (a : LeF f g) (b : LeF g h) : LeF f h := ⟨Int.le_trans a.1 b.1, fun i => Int.le_trans (a.2 i) (b.2 i)⟩
theorem LeF.ok {M : Int} {f g : Fm} (h : LeF f g) (hg : FmOk M g) : FmOk M f := ⟨Int.le_trans h.1 hg.1, fun i => Int.le_trans (h.2 i) (hg.2 i)⟩
theorem mul_ge {c x : Int} (hc : 1 ≤ c) (hx : 0 ≤ x) : x ≤ c * x := by
  have := Int.mul_le_mul_of_nonneg_right hc hx
  omega
theorem addc_facts {f g : Fm} {c : Int} (hf : NN f) (hg : NN g) (hc : 1 ≤ c) : NN (addc f c g) ∧ LeF f (addc f c g) ∧ LeF g (addc f c g) := by
  have h1 := mul_ge hc hg.1
  have h2 := fun i => mul_ge hc (hg.2 i)
  have h3 := hf.1
  have h4 := hg.1
  have e := fun i => zadd_getD c f.2 g.2 i
  refine ⟨⟨by simp only [addc]; omega, fun i => ?_⟩, ⟨by simp only [addc]; omega, fun i => ?_⟩, ⟨by simp only [addc]; omega, fun i => ?_⟩⟩ <;> (have := e i; have := h2 i; have := hf.2 i; have := hg.2 i; simp only [addc]; omega)
theorem appF_facts : ∀ {cs : List Int} {gs : List Fm} {f : Fm}, NN f → (∀ g ∈ gs, NN g) → (∀ c ∈ cs, 1 ≤ c) → NN (appF f cs gs) ∧ LeF f (appF f cs gs) ∧ (cs.length = gs.length → ∀ g ∈ gs, LeF g (appF f cs gs))
  | [], gs, f, hf, _, _ => ⟨by simpa [appF] using hf, by simpa [appF] using LeF.refl f, fun h => by cases gs with | nil => simp | cons g gs => simp at h⟩
  | c :: cs, [], f, hf, _, _ => ⟨by simpa [appF] using hf, by simpa [appF] using LeF.refl f, by simp⟩
  | c :: cs, g :: gs, f, hf, hg, hc => by
    obtain ⟨h1, h2, h3⟩ := addc_facts hf (hg g (by simp)) (hc c (by simp))
    obtain ⟨h4, h5, h6⟩ := appF_facts (cs := cs) (gs := gs) h1 (fun x hx => hg x (by simp [hx])) fun x hx => hc x (by simp [hx])
    simp only [appF]
    refine ⟨h4, h2.trans h5, fun hl x hx => ?_⟩
    rcases List.mem_cons.1 hx with rfl | hx
    · exact h3.trans h5
    · exact h6 (by simpa using hl) x hx
theorem varF_facts (x : Int) : NN (varF x) ∧ FmOk 1 (varF x) := by
  have h : ∀ n i, (List.replicate n (0 : Int) ++ [1]).getD i 0 = 0 ∨ (List.replicate n (0 : Int) ++ [1]).getD i 0 = 1 := fun n i => by
    rw [List.getD_eq_getElem?_getD, List.getElem?_append]
    split
    · rw [List.getElem?_replicate]; split <;> simp
    · cases hq : ([1] : List Int)[i - (List.replicate n (0 : Int)).length]? with
      | none => simp
      | some v => have := List.mem_of_getElem? hq; simp at this; simp [this]
  exact ⟨⟨Int.le_refl _, fun i => by rcases h (-1 - x).toNat i with h | h <;> (show 0 ≤ (List.replicate (-1 - x).toNat (0 : Int) ++ [1]).getD i 0; omega)⟩,
    ⟨by simp [varF], fun i => by rcases h (-1 - x).toNat i with h | h <;> (show (List.replicate (-1 - x).toNat (0 : Int) ++ [1]).getD i 0 ≤ 1; omega)⟩⟩
def M12 : Int := 1000000000000
instance (f : Fm) : Decidable (FmOk M12 f) := decidable_of_iff (f.1 ≤ M12 ∧ ∀ c ∈ f.2, c ≤ M12) (by
  refine and_congr Iff.rfl ⟨fun h i => ?_, fun h c hc => ?_⟩
  · rw [List.getD_eq_getElem?_getD]
    cases hq : f.2[i]? with
    | none => show (0 : Int) ≤ M12; decide
    | some v => exact h v (List.mem_of_getElem? hq)
  · obtain ⟨i, hi, rfl⟩ := List.getElem_of_mem hc
    have := h i
    rwa [show f.2.getD i 0 = f.2[i] from getD_get hi] at this)
def encF (f : Fm) : Fm × Bool := if FmOk M12 f then (f, true) else ((0, []), false)
/-- polynomials that are right for a signature, each argument counted -/
def polyOk (a : List Int) (ps : List Fm) : Prop := ps.length = a.length ∧ ∀ i < ps.length, (0 ≤ (ps.getD i default).1 ∧ (ps.getD i default).1 ≤ 9) ∧ ((ps.getD i default).2.length : Int) = a.getD i default ∧ ∀ c ∈ (ps.getD i default).2, 1 ≤ c ∧ c ≤ 9
theorem polyOk.psok {a : List Int} {ps : List Fm} (h : polyOk a ps) : PsOk ps := fun p hp => by
  obtain ⟨i, hi, rfl⟩ := List.getElem_of_mem hp
  obtain ⟨h1, _, h3⟩ := h.2 i hi
  rw [show ps.getD i default = ps[i] from getD_get hi] at h1 h3
  exact ⟨h1.1, fun c hc => (h3 c hc).1⟩
theorem polyOk.mat {a : List Int} {ps : List Fm} (h : polyOk a ps) : Mat a ps := fun i hi => by
  have := (h.2 i (by rw [h.1]; exact hi)).2.1
  rw [show a.getD i 0 = a.getD i default from rfl]
  omega
theorem fm_NN {a : List Int} {ps : List Fm} (hp : polyOk a ps) (ha : sigOk a = true) : ∀ (n : Nat) {u : List Int}, u.length ≤ n → Wf a 1 u → NN (fm a ps u)
  | 0, u, hn, h => by have := h.len; omega
  | n + 1, u, hn, h => by
    obtain ⟨x, r, rfl, ho, hr⟩ := h.pos
    rw [Nat.zero_add] at hr
    by_cases hx : x < 0
    · rw [fm_var hx]; exact (varF_facts x).1
    · obtain ⟨us, h1, rfl, h2⟩ := wf_list hr
      rw [fm_sym hx h2 h1]
      have hlt : x.toNat < ps.length := by have := ho.2; have := hp.1; omega
      obtain ⟨⟨h3, _⟩, _, h4⟩ := hp.2 _ hlt
      refine (appF_facts (f := ((ps.getD x.toNat default).1, [])) ⟨h3, fun i => by simp⟩ (fun g hg => ?_) fun c hc => (h4 c hc).1).1
      obtain ⟨u, hu, rfl⟩ := List.mem_map.1 hg
      refine fm_NN hp ha n ?_ (h2 u hu)
      have := (List.sublist_flatten_of_mem hu).length_le
      rw [List.length_cons] at hn; omega
end Go.Proofs.YtcaljngigbfadaaGreat
namespace Go.Proofs.YtcaljngigbfadaaGreat
open Go Abx Tm
/-! ### Forms, the program's -/
theorem rep_set (k : Nat) : (List.replicate (k + 1) (0 : Int)).set k 1 = List.replicate k 0 ++ [1] := by
  induction k with
  | zero => rfl
  | succ k ih => rw [List.replicate_succ, List.set_cons_succ, ih, List.replicate_succ]; rfl
theorem F_impl_varForm_eq {x : Int} (h : x < 0) (h' : -24 ≤ x) : F_impl_varForm x = some (varF x) := by
  have e1 : IntKind.i64.wrap (0 - x) = -x := by rw [w64 (by omega) (by omega)]; omega
  have e2 : IntKind.i64.wrap (-1 - x) = -1 - x := w64 (by omega) (by omega)
  have e3 : (-x).toNat = (-1 - x).toNat + 1 := by omega
  unfold F_impl_varForm
  rw [e1, e2, e3, rep_set]
  rw [if_pos (by omega), if_pos (by simp only [List.length_replicate]; omega), if_pos (by simp)]
  rfl
/-- where arguments stand -/
def posL (s : Int) : List (List Int) → List Int
  | [] => []
  | u :: us => s :: posL (s + u.length) us
theorem posL_len : ∀ (us : List (List Int)) (s : Int), (posL s us).length = us.length
  | [], _ => rfl
  | u :: us, s => by simp [posL, posL_len us]
theorem posL_take : ∀ (us : List (List Int)) (s : Int) (j : Nat) (_ : j < us.length), posL s (us.take (j + 1)) = posL s (us.take j) ++ [s + ((us.take j).flatten.length : Int)]
  | [], _, _, h => by simp at h
  | u :: us, s, 0, _ => by simp [posL]
  | u :: us, s, j + 1, h => by
    simp only [List.take_succ_cons, posL]
    rw [posL_take us _ j (by simpa using h)]
    simp; omega
theorem posL_get : ∀ (us : List (List Int)) (s : Int) (j : Nat) (_ : j < us.length), (posL s us).getD j default = s + ((us.take j).flatten.length : Int)
  | [], _, _, h => by simp at h
  | u :: us, s, 0, _ => by simp [posL]
  | u :: us, s, j + 1, h => by
    simp only [posL, List.getD_cons_succ, List.take_succ_cons]
    rw [posL_get us _ j (by simpa using h)]
    simp; omega
theorem flat_take {us : List (List Int)} {j : Nat} (h : j < us.length) : (us.take (j + 1)).flatten = (us.take j).flatten ++ us[j] := by
  rw [List.take_add_one, List.getElem?_eq_getElem h, List.flatten_append]; simp
theorem drop_arg {t s : List Int} {x : Int} {us : List (List Int)} {i j : Nat} (h : t.drop i = x :: (us.flatten ++ s)) (hj : j < us.length) :
    t.drop (i + 1 + (us.take j).flatten.length) = us[j] ++ ((us.drop (j + 1)).flatten ++ s) := by
  rw [Nat.add_assoc, ← List.drop_drop, h, Nat.add_comm 1, List.drop_succ_cons]
  have e : us.flatten = (us.take j).flatten ++ (us[j] ++ (us.drop (j + 1)).flatten) := by
    conv => lhs; rw [← List.take_append_drop j us, List.drop_eq_getElem_cons hj]
    rw [List.flatten_append, List.flatten_cons]
  rw [e, List.append_assoc, List.drop_left, List.append_assoc]
theorem F_impl_argsAt_eq {a t s : List Int} {x : Int} {us : List (List Int)} {i : Nat} (ha : sigOk a = true) (hs : t.length ≤ 60) (hm : ∀ y ∈ t, -24 ≤ y) (h : t.drop i = x :: (us.flatten ++ s)) (ho : okx a x) (hl : us.length = ari a x)
    (hu : ∀ u ∈ us, Wf a 1 u) : F_impl_argsAt a t i = some (posL ((i : Int) + 1) us) := by
  have hlen := congrArg List.length h
  simp only [List.length_drop, List.length_cons, List.length_append] at hlen
  have hi : i < t.length := by omega
  have hx : t[i] = x := by rw [List.drop_eq_getElem_cons hi] at h; exact (List.cons.inj h).1
  have h3 := ari_le ha x
  have key : Okk True (F_impl_argsAt a t i) (· = posL ((i : Int) + 1) us) := by
    unfold F_impl_argsAt
    rw [if_pos (by omega), Int.toNat_natCast, getD_get hi, hx, F_impl_arityAt_eq ha ho.2, Option.bind_some, w64 (n := (i : Int) + 1) (by omega) (by omega)]
    refine Okk.loop (fun q : List Int × Int × Int => ∃ j : Nat, j ≤ us.length ∧ q.1 = posL ((i : Int) + 1) (us.take j) ∧ q.2.1 = (i : Int) + 1 + ((us.take j).flatten.length : Int) ∧ q.2.2 = (us.length : Int) - j) (fun q : List Int × Int × Int => q.2.2.toNat)
      ⟨0, by omega, by simp [posL], by simp, by simp [hl]⟩ ?_
    rintro ⟨_, _, _⟩ ⟨j, h4, rfl, rfl, rfl⟩
    simp only [F_impl_argsAt_l1]
    by_cases hj : j < us.length
    · have hd := drop_arg h hj
      have hw := hu _ (List.getElem_mem hj)
      have hpl := posL_len (us.take j) ((i : Int) + 1)
      rw [List.length_take] at hpl
      have hdl := congrArg List.length hd
      have hwl := hw.len
      simp only [List.length_drop, List.length_append] at hdl
      have he := F_impl_endAt_eq ha (show Small t by show t.length < _; omega) hm (i := i + 1 + (us.take j).flatten.length) (by omega)
      rw [endI_app hd hw] at he
      rw [show ((i + 1 + (us.take j).flatten.length : Nat) : Int) = (i : Int) + 1 + ((us.take j).flatten.length : Int) by omega] at he
      simp only [show (0 : Int) < (us.length : Int) - j by omega, decide_true, if_true, show ((posL ((i : Int) + 1) (us.take j)).length + 1) * 8 ≤ 140737488355328 by omega, he, Option.bind_some, w64 (n := (us.length : Int) - j - 1) (by omega) (by omega)]
      refine .some ⟨⟨j + 1, by omega, (posL_take us _ j hj).symm, ?_, by simp only; omega⟩, by simp only; omega⟩
      simp only [flat_take hj, List.length_append]
      omega
    · obtain rfl : j = us.length := by omega
      simp only [show ¬ (0 : Int) < (us.length : Int) - (us.length : Int) by omega, decide_false, Bool.false_eq_true, if_false, Option.map_some]
      refine .some ?_
      simp only [Rnd, List.take_length]
  exact key.eq
theorem appF_take {gs : List Fm} : ∀ {cs : List Int} {gs : List Fm} {f : Fm} {i : Nat} (h1 : i < cs.length) (h2 : i < gs.length), appF f (cs.take (i + 1)) (gs.take (i + 1)) = addc (appF f (cs.take i) (gs.take i)) cs[i] gs[i]
  | c :: cs, g :: gs, f, 0, _, _ => by simp [appF]
  | c :: cs, g :: gs, f, i + 1, h1, h2 => by
    simp only [List.take_succ_cons, appF, List.getElem_cons_succ]
    exact appF_take (gs := gs) (by simpa using h1) (by simpa using h2)
  | [], _, _, _, h1, _ => by simp at h1
  | _ :: _, [], _, _, _, h2 => by simp at h2
theorem F_slices_Max_ok {x : List Int} (h0 : 0 < x.length) (hs : Small x) : Okk True (F_slices_Max_int64_int64 x) fun m => ∀ b, m ≤ b ↔ ∀ y ∈ x, y ≤ b := by
  unfold F_slices_Max_int64_int64
  have h1 : ¬ (x.length : Int) < 1 := by omega
  have h2 : (0 : Int) < x.length := by omega
  simp only [h1, h2, decide_false, Bool.false_eq_true, if_false, Int.le_refl, and_self, if_true]
  refine Okk.loop (fun s : Int × Int => ∃ i : Nat, s.2 = (i : Int) ∧ 1 ≤ i ∧ i ≤ x.length ∧ ∀ b, s.1 ≤ b ↔ ∀ y ∈ x.take i, y ≤ b) (fun s : Int × Int => x.length - s.2.toNat) ⟨1, rfl, Nat.le_refl _, by omega, fun b => ?_⟩ ?_
  · cases x with
    | nil => simp at h0
    | cons y x => simp
  · rintro ⟨m, i'⟩ ⟨i, rfl, h3, h4, h5⟩
    simp only [F_slices_Max_int64_int64_l1] at h5 ⊢
    by_cases hi : i < x.length
    · have hi' : (i : Int) < x.length := by omega
      have hw : IntKind.i64.wrap ((i : Int) + 1) = i + 1 := w64 (by omega) (by omega)
      simp only [hi', decide_true, if_true, show (0 : Int) ≤ i by omega, and_self, Int.toNat_natCast, getD_get hi, hw]
      refine .some ⟨⟨i + 1, by simp, by omega, by omega, fun b => ?_⟩, by simp; omega⟩
      rw [List.take_add_one, List.getElem?_eq_getElem hi]
      have := h5 b
      simp only [List.mem_append, Option.toList_some, List.mem_singleton]
      split
      · constructor
        · rintro hb y (hy | rfl)
          · exact (h5 b).1 (by omega) y hy
          · exact hb
        · intro hb; exact hb _ (.inr rfl)
      · constructor
        · rintro hb y (hy | rfl)
          · exact (h5 b).1 hb y hy
          · omega
        · intro hb; exact (h5 b).2 fun y hy => hb y (.inl hy)
    · have hi' : ¬ (i : Int) < x.length := by omega
      simp only [hi', decide_false, Bool.false_eq_true, if_false, Option.map_some]
      refine .some fun b => ?_
      rw [h5 b, List.take_of_length_le (by omega)]
/-- lists of sums: told by their places -/
theorem zadd_of {c : Int} {xs ys zs : List Int} (hl : zs.length = max xs.length ys.length) (h : ∀ i, zs.getD i 0 = xs.getD i 0 + c * ys.getD i 0) : zs = zadd c xs ys := by
  refine List.ext_getElem (by rw [hl, zadd_len]) fun i h1 h2 => ?_
  have e1 : zs.getD i 0 = zs[i] := getD_get h1
  have e2 : (zadd c xs ys).getD i 0 = (zadd c xs ys)[i] := getD_get h2
  rw [← e1, ← e2, h i, zadd_getD]
theorem getD_app0 {xs : List Int} {i : Nat} : (xs ++ [0]).getD i 0 = xs.getD i 0 := by
  rw [List.getD_eq_getElem?_getD, List.getD_eq_getElem?_getD]
  by_cases h : i < xs.length
  · rw [List.getElem?_append_left h]
  · rw [List.getElem?_append_right (by omega), List.getElem?_eq_none (l := xs) (by omega)]
    cases hq : ([0] : List Int)[i - xs.length]? with
    | none => rfl
    | some v => have := List.mem_of_getElem? hq; simp at this; simp [this]
theorem getD_set' {xs : List Int} {i j : Nat} {v : Int} (h : i < xs.length) : (xs.set i v).getD j 0 = if j = i then v else xs.getD j 0 := by
  rw [List.getD_eq_getElem?_getD, List.getElem?_set, List.getD_eq_getElem?_getD]
  by_cases e : i = j
  · subst e; simp [h]
  · rw [if_neg e, if_neg (fun h => e h.symm)]
/-- bounds of what is summed -/
structure Bnd (f : Fm) (B : Int) : Prop where
  lo : NN f
  c : f.1 ≤ B
  i : ∀ j, f.2.getD j 0 ≤ B
  l : f.2.length ≤ 24
theorem addc_bnd {f g : Fm} {B c : Int} (hf : Bnd f B) (hg : Bnd g 1000000000000) (h1 : 1 ≤ c) (h9 : c ≤ 9) : Bnd (addc f c g) (B + 9000000000000) := by
  have h3 := hf.c
  have m : ∀ x : Int, 0 ≤ x → x ≤ 1000000000000 → c * x ≤ 9000000000000 := fun x hx hy => by
    have e1 := Int.mul_le_mul_of_nonneg_right h9 hx
    omega
  refine ⟨(addc_facts hf.lo hg.lo h1).1, ?_, fun j => ?_, ?_⟩
  · have := m g.1 hg.lo.1 hg.c
    simp only [addc]; omega
  · have e := zadd_getD c f.2 g.2 j
    have := m _ (hg.lo.2 j) (hg.i j)
    have := hf.i j
    simp only [addc]; omega
  · simp only [addc, zadd_len]; have := hf.l; have := hg.l; omega
theorem F_impl_Poly_applied_eq {p : Fm} {args : List Fm} (h0 : 0 ≤ p.1) (h9 : p.1 ≤ 9) (hc : ∀ c ∈ p.2, 1 ≤ c ∧ c ≤ 9) (hl : args.length = p.2.length) (h3 : args.length ≤ 3) (hg : ∀ g ∈ args, Bnd g 1000000000000) :
    F_impl_Poly_applied p args = some (encF (appF (p.1, []) p.2 args)) := by
  have step : ∀ i, i ≤ args.length → Bnd (appF (p.1, []) (p.2.take i) (args.take i)) (9 + 9000000000000 * i) := by
    intro i
    induction i with
    | zero => intro _; exact ⟨⟨by simpa [appF] using h0, fun j => by simp [appF]⟩, by simpa [appF] using h9, fun j => by simp [appF], by simp [appF]⟩
    | succ i ih =>
      intro hi
      have h1 : i < p.2.length := by omega
      have h2 : i < args.length := by omega
      rw [appF_take (gs := args) h1 h2]
      have hb := hc _ (List.getElem_mem h1)
      have := addc_bnd (ih (by omega)) (hg _ (List.getElem_mem h2)) hb.1 hb.2
      rw [show (9 : Int) + 9000000000000 * ((i + 1 : Nat) : Int) = 9 + 9000000000000 * (i : Int) + 9000000000000 by omega]
      exact this
  have key : Okk True (F_impl_Poly_applied p args) (· = encF (appF (p.1, []) p.2 args)) := by
    unfold F_impl_Poly_applied
    refine Okk.loop (fun q : Int × Int × List Int => ∃ i : Nat, q.1 = i ∧ i ≤ args.length ∧ (q.2.1, q.2.2) = appF (p.1, []) (p.2.take i) (args.take i)) (fun q : Int × Int × List Int => args.length - q.1.toNat) ⟨0, rfl, by omega, by simp [appF]⟩ ?_
    rintro ⟨_, o, g⟩ ⟨i, rfl, h4, h5⟩
    simp only at h5
    have hb := step i h4
    rw [← h5] at hb
    have hB : (9 : Int) + 9000000000000 * i ≤ 27000000000009 := by omega
    simp only [F_impl_Poly_applied_l1]
    by_cases hi : i < args.length
    · have hip : i < p.2.length := by omega
      have hcc := hc _ (List.getElem_mem hip)
      have hgg := hg _ (List.getElem_mem hi)
      simp only [show (i : Int) < args.length by omega, show (i : Int) < p.2.length by omega, decide_true, if_true, show (0 : Int) ≤ i by omega, and_self]
      -- the cells are made as many as those of the argument
      refine Okk.loop (fun g' : List Int => g'.length ≤ max g.length (args[i]).2.length ∧ g.length ≤ g'.length ∧ ∀ j, g'.getD j 0 = g.getD j 0) (fun g' : List Int => 24 - g'.length) ⟨by omega, Nat.le_refl _, fun _ => rfl⟩ ?_
      rintro g' ⟨h6, h7, h8⟩
      have hgl := hb.l
      have hal := hgg.l
      simp only at hgl
      simp only [F_impl_Poly_applied_l2, Int.toNat_natCast, getD_get hi]
      by_cases hx : g'.length < (args[i]).2.length
      · simp only [show (g'.length : Int) < ((args[i]).2.length : Int) by omega, decide_true, if_true, show (g'.length + 1) * 8 ≤ 140737488355328 by omega]
        exact .some ⟨⟨by simp; omega, by simp; omega, fun j => by rw [getD_app0, h8]⟩, by simp; omega⟩
      · simp only [show ¬ (g'.length : Int) < ((args[i]).2.length : Int) by omega, decide_false, Bool.false_eq_true, if_false]
        refine Okk.inr ?_
        simp only [Rnd]
        refine Okk.loop (fun q : Int × List Int => ∃ v : Nat, q.1 = v ∧ v ≤ (args[i]).2.length ∧ q.2.length = g'.length ∧ ∀ j, q.2.getD j 0 = g.getD j 0 + (if j < v then p.2[i] * (args[i]).2.getD j 0 else 0)) (fun q : Int × List Int => (args[i]).2.length - q.1.toNat) ⟨0, rfl, by omega, rfl, fun j => by rw [if_neg (by omega), Int.add_zero]; exact h8 j⟩ ?_
        rintro ⟨_, g2⟩ ⟨v, rfl, h10, h11, h12⟩
        simp only at h11 h12
        simp only [F_impl_Poly_applied_l3, Int.toNat_natCast, getD_get hi, getD_get hip]
        by_cases hv : v < (args[i]).2.length
        · have hv2 : v < g2.length := by omega
          have e1 : g2.getD v default = g.getD v 0 := by have := h12 v; simp at this; exact this
          have e2 : (args[i]).2.getD v default = (args[i]).2.getD v 0 := rfl
          have b1 := hb.i v
          have b2 := hb.lo.2 v
          have b3 := hgg.i v
          have b4 := hgg.lo.2 v
          simp only at b1 b2
          have m1 := Int.mul_le_mul_of_nonneg_right hcc.2 b4
          have m2 := Int.mul_nonneg (show 0 ≤ p.2[i] by omega) b4
          simp only [show (v : Int) < ((args[i]).2.length : Int) by omega, show (v : Int) < (g2.length : Int) by omega, decide_true, if_true, show (0 : Int) ≤ v by omega, show (0 : Int) ≤ i by omega, show (i : Int) < p.2.length by omega, and_self, e1, e2,
            w64 (n := (v : Int) + 1) (by omega) (by omega), w64 (n := p.2[i] * (args[i]).2.getD v 0) (by omega) (by omega), w64 (n := g.getD v 0 + p.2[i] * (args[i]).2.getD v 0) (by omega) (by omega)]
          refine .some ⟨⟨v + 1, by simp, by omega, by simp [h11], fun j => ?_⟩, by simp; omega⟩
          simp only
          rw [getD_set' hv2]
          by_cases hj : j = v
          · subst hj; rw [if_pos rfl, if_pos (by omega)]
          · rw [if_neg hj, h12 j]
            by_cases hjv : j < v
            · rw [if_pos hjv, if_pos (by omega)]
            · rw [if_neg hjv, if_neg (by omega)]
        · simp only [show ¬ (v : Int) < ((args[i]).2.length : Int) by omega, decide_false, Bool.false_eq_true, if_false, Option.map_some]
          have b1 := hb.c
          have b2 := hb.lo.1
          have b3 := hgg.c
          have b4 := hgg.lo.1
          simp only at b1 b2
          have m1 := Int.mul_le_mul_of_nonneg_right hcc.2 b4
          have m2 := Int.mul_nonneg (show 0 ≤ p.2[i] by omega) b4
          rw [w64 (n := (i : Int) + 1) (by omega) (by omega), w64 (n := p.2[i] * (args[i]).1) (by omega) (by omega), w64 (n := o + p.2[i] * (args[i]).1) (by omega) (by omega)]
          refine .some ⟨⟨i + 1, by simp, by omega, ?_⟩, by simp; omega⟩
          rw [appF_take (gs := args) hip hi, ← h5]
          simp only [addc]
          congr 1
          refine zadd_of (by omega) fun j => ?_
          rw [h12 j]
          by_cases hj : j < v
          · rw [if_pos hj]
          · rw [if_neg hj, List.getD_eq_getElem?_getD (l := (args[i]).2), List.getElem?_eq_none (by omega)]; simp
    · obtain rfl : i = args.length := by omega
      rw [List.take_length, hl, List.take_length] at h5
      simp only [Int.lt_irrefl, decide_false, Bool.false_eq_true, if_false]
      refine Okk.inr ?_
      simp only [Rnd]
      have hgl := hb.l
      simp only at hgl
      rw [← h5]
      unfold encF
      by_cases h6 : 1000000000000 < o
      · simp only [h6, decide_true, if_true]
        rw [if_neg (fun h => by have := h.1; simp only [M12] at this; omega)]
        exact .some rfl
      · simp only [h6, decide_false, Bool.false_eq_true, if_false]
        by_cases h7 : 0 < g.length
        · simp only [show (0 : Int) < (g.length : Int) by omega, decide_true, if_true]
          refine Okk.bind (F_slices_Max_ok h7 (by show g.length < _; omega)) fun m hm => ?_
          by_cases h8 : 1000000000000 < m
          · simp only [h8, decide_true, if_true]
            rw [if_neg (fun h => ?_)]
            · exact .some rfl
            · have := (hm 1000000000000).2 fun y hy => by
                obtain ⟨j, hj, rfl⟩ := List.getElem_of_mem hy
                have := h.2 j
                rwa [show (o, g).2.getD j 0 = g[j] from getD_get hj] at this
              omega
          · simp only [h8, decide_false, Bool.false_eq_true, if_false]
            have hok : FmOk M12 (o, g) := ⟨by show o ≤ 1000000000000; omega, fun j => by
              show g.getD j 0 ≤ 1000000000000
              rw [List.getD_eq_getElem?_getD]
              cases hq : g[j]? with
              | none => show (0 : Int) ≤ 1000000000000; decide
              | some y => exact (hm 1000000000000).1 (by omega) y (List.mem_of_getElem? hq)⟩
            rw [if_pos hok]
            exact .some rfl
        · have : g = [] := List.length_eq_zero_iff.1 (by omega)
          subst this
          simp only [List.length_nil, Int.natCast_zero, Int.lt_irrefl, decide_false, Bool.false_eq_true, if_false]
          rw [if_pos ⟨by show o ≤ 1000000000000; omega, fun j => by show ([] : List Int).getD j 0 ≤ 1000000000000; simp⟩]
          exact .some rfl
  exact key.eq
end Go.Proofs.YtcaljngigbfadaaGreat
namespace Go.Proofs.YtcaljngigbfadaaGreat
open Go Abx Tm
theorem fm_bnd {a : List Int} {ps : List Fm} (hp : polyOk a ps) (ha : sigOk a = true) : ∀ (n : Nat) {u : List Int}, u.length ≤ n → Wf a 1 u → (fm a ps u).2.length ≤ 24
  | 0, u, hn, h => by have := h.len; omega
  | n + 1, u, hn, h => by
    obtain ⟨x, r, rfl, ho, hr⟩ := h.pos
    rw [Nat.zero_add] at hr
    by_cases hx : x < 0
    · rw [fm_var hx]; have := ho.1; simp [varF]; omega
    · obtain ⟨us, h1, rfl, h2⟩ := wf_list hr
      rw [fm_sym hx h2 h1]
      have key : ∀ (cs : List Int) (gs : List Fm) (f : Fm), f.2.length ≤ 24 → (∀ g ∈ gs, g.2.length ≤ 24) → (appF f cs gs).2.length ≤ 24 := by
        intro cs
        induction cs with
        | nil => intro gs f hf _; simpa [appF] using hf
        | cons c cs ih =>
          intro gs f hf hg
          cases gs with
          | nil => simpa [appF] using hf
          | cons g gs =>
            simp only [appF]
            refine ih gs _ ?_ fun x hx => hg x (by simp [hx])
            have := hg g (by simp)
            simp only [addc, zadd_len]; omega
      refine key _ _ _ (by simp) fun g hg => ?_
      obtain ⟨u, hu, rfl⟩ := List.mem_map.1 hg
      refine fm_bnd hp ha n ?_ (h2 u hu)
      have := (List.sublist_flatten_of_mem hu).length_le
      rw [List.length_cons] at hn; omega
theorem fm_Bnd {a : List Int} {ps : List Fm} (hp : polyOk a ps) (ha : sigOk a = true) {u : List Int} (h : Wf a 1 u) (hok : FmOk M12 (fm a ps u)) : Bnd (fm a ps u) 1000000000000 :=
  ⟨fm_NN hp ha _ (Nat.le_refl _) h, hok.1, hok.2, fm_bnd hp ha _ (Nat.le_refl _) h⟩
theorem encF_ok {f : Fm} (h : FmOk M12 f) : encF f = (f, true) := if_pos h
theorem encF_no {f : Fm} (h : ¬ FmOk M12 f) : encF f = ((0, []), false) := if_neg h
/-- a whole is right only if its parts are -/
theorem fm_parts {a : List Int} {ps : List Fm} (hp : polyOk a ps) (ha : sigOk a = true) {x : Int} {us : List (List Int)} (hx : ¬ x < 0) (ho : okx a x) (hl : us.length = ari a x) (hu : ∀ u ∈ us, Wf a 1 u) (hok : FmOk M12 (fm a ps (x :: us.flatten))) :
    ∀ u ∈ us, FmOk M12 (fm a ps u) := fun u hu' => by
  rw [fm_sym hx hu hl] at hok
  have hlt : x.toNat < ps.length := by have := ho.2; have := hp.1; omega
  obtain ⟨⟨h3, _⟩, h5, h4⟩ := hp.2 _ hlt
  refine ((appF_facts (f := ((ps.getD x.toNat default).1, [])) ⟨h3, fun i => by simp⟩ (fun g hg => ?_) fun c hc => (h4 c hc).1).2.2 ?_ _ (List.mem_map.2 ⟨u, hu', rfl⟩)).ok hok
  · obtain ⟨v, hv, rfl⟩ := List.mem_map.1 hg
    exact fm_NN hp ha _ (Nat.le_refl _) (hu v hv)
  · have : ari a x = (a.getD x.toNat 0).toNat := by simp [ari, hx]
    rw [show a.getD x.toNat default = a.getD x.toNat 0 from rfl] at h5
    rw [List.length_map, hl, this]; omega
theorem ari_ps {a : List Int} {ps : List Fm} (hp : polyOk a ps) {x : Int} (hx : ¬ x < 0) (ho : okx a x) : (ps.getD x.toNat default).2.length = ari a x := by
  have hlt : x.toNat < ps.length := by have := ho.2; have := hp.1; omega
  have h5 := (hp.2 _ hlt).2.1
  have : ari a x = (a.getD x.toNat 0).toNat := by simp [ari, hx]
  rw [show a.getD x.toNat default = a.getD x.toNat 0 from rfl] at h5
  omega
theorem F_impl_formAt_ok {a t : List Int} {ps : List Fm} (hp : polyOk a ps) (ha : sigOk a = true) (htl : t.length ≤ 60) (hm : ∀ y ∈ t, -24 ≤ y) : ∀ (fu : Nat) {i : Nat} {u s : List Int}, t.drop i = u ++ s → Wf a 1 u →
    Okk (u.length ≤ fu) (F_impl_formAt fu a ps t i) (· = encF (fm a ps u))
  | 0, i, u, s, _, hu => ⟨fun _ h => by simp [F_impl_formAt] at h, fun h => by have := hu.len; omega⟩
  | fu + 1, i, u, s, h, hu => by
    obtain ⟨x, r, rfl, ho, hr⟩ := hu.pos
    rw [Nat.zero_add] at hr
    have hlen := congrArg List.length h
    simp only [List.length_drop, List.length_append, List.length_cons] at hlen
    have hi : i < t.length := by omega
    have hx : t[i] = x := by rw [List.drop_eq_getElem_cons hi] at h; exact (List.cons.inj h).1
    unfold F_impl_formAt
    refine Okk.bind (P := (· = encF (fm a ps (x :: r)))) ?_ fun q hq => .some hq
    unfold F_impl_markedForm
    rw [if_pos (by omega), Int.toNat_natCast, getD_get hi, hx]
    by_cases hn : x < 0
    · simp only [hn, decide_true, if_true, show (0 : Int) ≤ i ∧ (i : Int) < t.length by omega, and_self, F_impl_varForm_eq hn ho.1, Option.bind_some]
      rw [fm_var hn, encF_ok ⟨Int.le_trans (varF_facts x).2.1 (by decide), fun j => Int.le_trans ((varF_facts x).2.2 j) (by decide)⟩]
      exact .some rfl
    · obtain ⟨us, h1, rfl, h2⟩ := wf_list hr
      have hd : t.drop i = x :: (us.flatten ++ s) := by rw [h]; rfl
      simp only [hn, decide_false, Bool.false_eq_true, if_false, F_impl_argsAt_eq ha htl hm hd ho h1 h2, Option.bind_some]
      have hpl := posL_len us ((i : Int) + 1)
      have h3 := ari_le ha x
      refine Okk.loop (fun q : List Fm × Int => ∃ j : Nat, q.2 = j ∧ j ≤ us.length ∧ q.1 = (us.take j).map (fm a ps) ∧ ∀ u ∈ us.take j, FmOk M12 (fm a ps u)) (fun q : List Fm × Int => us.length - q.2.toNat) ⟨0, rfl, by omega, by simp, by simp⟩ ?_
      rintro ⟨_, _⟩ ⟨j, rfl, h4, rfl, h5⟩
      simp only [F_impl_markedForm_l1]
      by_cases hj : j < us.length
      · have hwj := h2 _ (List.getElem_mem hj)
        have hdj := drop_arg hd hj
        simp only [hpl, show (j : Int) < (us.length : Int) by omega, decide_true, if_true, show (0 : Int) ≤ j by omega, and_self, Int.toNat_natCast, posL_get us _ j hj]
        have ih := F_impl_formAt_ok hp ha htl hm fu hdj hwj
        rw [show ((i + 1 + (us.take j).flatten.length : Nat) : Int) = (i : Int) + 1 + ((us.take j).flatten.length : Int) by omega] at ih
        have hsub := (List.sublist_flatten_of_mem (List.getElem_mem hj)).length_le
        refine Okk.bind (ih.weak fun hf => by rw [List.length_cons] at hf; omega) fun q hq => ?_
        subst hq
        by_cases hk : FmOk M12 (fm a ps us[j])
        · rw [encF_ok hk]
          simp only [if_true, List.length_map, List.length_take, show (min j us.length + 1) * 32 ≤ 140737488355328 by omega, w64 (n := (j : Int) + 1) (by omega) (by omega)]
          refine .some ⟨⟨j + 1, by simp, by omega, ?_, ?_⟩, by simp; omega⟩
          · simp only; rw [List.take_add_one, List.getElem?_eq_getElem hj, List.map_append]; rfl
          · intro u hu
            rw [List.take_add_one, List.getElem?_eq_getElem hj] at hu
            rcases List.mem_append.1 hu with hu | hu
            · exact h5 u hu
            · simp at hu; subst hu; exact hk
        · rw [encF_no hk]
          simp only [Bool.false_eq_true, if_false, Option.map_some]
          refine .some ?_
          simp only [Rnd]
          rw [encF_no fun h => hk (fm_parts hp ha hn ho h1 h2 h _ (List.getElem_mem hj))]
      · obtain rfl : j = us.length := by omega
        rw [List.take_length] at h5
        have hlt : x.toNat < ps.length := by have := ho.2; have := hp.1; omega
        obtain ⟨⟨h6, h7⟩, _, h8⟩ := hp.2 _ hlt
        have hxs : x ≤ 8 := by have := ho.2; have := (sigOk_iff.1 ha).2.1; omega
        simp only [hpl, Int.lt_irrefl, decide_false, Bool.false_eq_true, if_false, show (0 : Int) ≤ i ∧ (i : Int) < t.length by omega, and_self, if_true, getD_get hi, hx, Int.add_zero, w64 (n := x) (by omega) (by omega), show 0 ≤ x ∧ x < (ps.length : Int) by omega, List.take_length]
        have := F_impl_Poly_applied_eq (p := ((ps.getD x.toNat default).1, (ps.getD x.toNat default).2)) (args := us.map (fm a ps)) h6 h7 h8 (by rw [List.length_map, h1, ari_ps hp hn ho]) (by rw [List.length_map]; omega)
          (fun g hg => by obtain ⟨u, hu, rfl⟩ := List.mem_map.1 hg; exact fm_Bnd hp ha (h2 u hu) (h5 u hu))
        simp only [Int.toNat_natCast, getD_get hi, hx, Int.add_zero, w64 (n := x) (by omega) (by omega)] at this ⊢
        rw [this, Option.bind_some, fm_sym hn h2 h1]
        rw [if_pos (by omega), Option.map_some]
        exact .some rfl
theorem F_impl_formAt_eq {a t : List Int} {ps : List Fm} (hp : polyOk a ps) (ht : termOk a t = true) : F_impl_formAt_all a ps t 0 = some (encF (fm a ps t)) := by
  obtain ⟨ha, _, h2, hw⟩ := termOk_iff.1 ht
  have : Okk True (F_impl_formAt_all a ps t 0) (· = encF (fm a ps t)) := by
    unfold F_impl_formAt_all
    refine Okk.lim t.length fun n => ?_
    exact F_impl_formAt_ok hp ha h2 (fun y hy => (hw.all y hy).1) n (i := 0) (s := []) (by simp) hw
  exact this.eq
end Go.Proofs.YtcaljngigbfadaaGreat
namespace Go.Proofs.YtcaljngigbfadaaGreat
open Go Abx Tm
/-! ### Forms, the reference's -/
theorem F_spec_l13End_eq {a t u s : List Int} {i : Nat} (ha : sigOk a = true) (htl : t.length ≤ 60) (h : t.drop i = u ++ s) (hu : Wf a 1 u) : F_spec_l13End a t i = some ((i : Int) + u.length) := by
  have hlen := congrArg List.length h
  have hul := hu.len
  simp only [List.length_drop, List.length_append] at hlen
  have hsk : Tm.skip a (t.drop i) 1 = some s := by rw [h]; exact hu.skip s
  have key : Okk True (F_spec_l13End a t i) (· = (i : Int) + u.length) := by
    unfold F_spec_l13End
    refine Okk.loop (fun q : Int × Int => ∃ k c : Nat, q.1 = c ∧ q.2 = k ∧ c ≤ t.length ∧ k ≤ 1 + 3 * c ∧ Tm.skip a (t.drop c) k = some s) (fun q : Int × Int => t.length - q.1.toNat) ⟨1, i, rfl, rfl, by omega, by omega, hsk⟩ ?_
    rintro ⟨_, _⟩ ⟨k, c, rfl, rfl, h1, h2, h3⟩
    simp only [F_spec_l13End_l1]
    cases k with
    | zero =>
      rw [skip_zero] at h3
      have := congrArg List.length (Option.some.inj h3)
      simp only [List.length_drop] at this
      simp only [show ¬ (0 : Int) < ((0 : Nat) : Int) by omega, decide_false, Bool.false_eq_true, if_false, Option.map_some]
      refine .some ?_
      simp only [Rnd]; omega
    | succ k =>
      have hc : c < t.length := by
        rcases Nat.lt_or_ge c t.length with h | h
        · exact h
        · rw [List.drop_of_length_le h, skip_nil] at h3; cases h3
      rw [skip_drop hc] at h3
      split at h3
      · rename_i ho
        have hle := ari_le ha t[c]
        simp only [show (0 : Int) < ((k + 1 : Nat) : Int) by omega, decide_true, if_true, show (0 : Int) ≤ c by omega, show (c : Int) < t.length by omega, and_self, Int.toNat_natCast, getD_get hc, w64 (n := (c : Int) + 1) (by omega) (by omega)]
        by_cases hn : t[c] < 0
        · have ha0 : ari a t[c] = 0 := by simp [ari, hn]
          rw [ha0, Nat.add_zero] at h3
          simp only [show ¬ 0 ≤ t[c] by omega, decide_false, Bool.false_eq_true, if_false, w64 (n := ((k + 1 : Nat) : Int) - 1) (by omega) (by omega)]
          exact .some ⟨⟨k, c + 1, by simp, by simp only; omega, by omega, by omega, h3⟩, by simp; omega⟩
        · have hlt : t[c].toNat < a.length := by have := ho.2; omega
          have hav := (sigOk_iff.1 ha).2.2 _ (getD_mem hlt)
          have har : (ari a t[c] : Int) = a.getD t[c].toNat default := by
            have : ari a t[c] = (a.getD t[c].toNat default).toNat := by simp only [ari, hn, if_false]; rfl
            omega
          have ho2 := ho.2
          simp only [show 0 ≤ t[c] by omega, decide_true, if_true, ho2, and_self, ← har]
          rw [w64 (n := ((k + 1 : Nat) : Int) + (ari a t[c] : Int)) (by omega) (by omega), w64 (n := ((k + 1 : Nat) : Int) + (ari a t[c] : Int) - 1) (by omega) (by omega)]
          exact .some ⟨⟨k + ari a t[c], c + 1, by simp, by simp only; omega, by omega, by omega, h3⟩, by simp; omega⟩
      · cases h3
  exact key.eq
theorem F_spec_l13Parts_eq {a : List Int} {x : Int} {us : List (List Int)} (ha : sigOk a = true) (htl : (x :: us.flatten).length ≤ 60) (hx : ¬ x < 0) (ho : okx a x) (hl : us.length = ari a x) (hu : ∀ u ∈ us, Wf a 1 u) :
    F_spec_l13Parts a (x :: us.flatten) = some us := by
  have h3 := ari_le ha x
  have hlt : x.toNat < a.length := by have := ho.2; omega
  have hav := (sigOk_iff.1 ha).2.2 _ (getD_mem hlt)
  have har : a.getD x.toNat default = (us.length : Int) := by
    have : ari a x = (a.getD x.toNat default).toNat := by simp only [ari, hx, if_false]; rfl
    omega
  have hd : (x :: us.flatten).drop 0 = x :: (us.flatten ++ []) := by simp
  have key : Okk True (F_spec_l13Parts a (x :: us.flatten)) (· = us) := by
    unfold F_spec_l13Parts
    have h0 : (0 : Nat) ≤ 0 ∧ (0 : Int) < ((x :: us.flatten).length : Int) := by simp only [List.length_cons]; omega
    rw [if_pos h0]
    simp only [List.getD_cons_zero, hx, decide_false, Bool.false_eq_true, if_false]
    refine Okk.loop (fun q : List (List Int) × Int × Int => ∃ j : Nat, j ≤ us.length ∧ q.1 = us.take j ∧ q.2.1 = 1 + ((us.take j).flatten.length : Int) ∧ q.2.2 = j) (fun q : List (List Int) × Int × Int => us.length - q.2.2.toNat) ⟨0, by omega, by simp, by simp, rfl⟩ ?_
    rintro ⟨_, _, _⟩ ⟨j, h4, rfl, rfl, rfl⟩
    simp only [F_spec_l13Parts_l1]
    rw [if_pos h0]
    have ho2 := ho.2
    simp only [List.getD_cons_zero, show 0 ≤ x by omega, ho2, and_self, if_true, har]
    by_cases hj : j < us.length
    · have hwj := hu _ (List.getElem_mem hj)
      have hdj := drop_arg hd hj
      have hlj := congrArg List.length hdj
      simp only [List.length_drop, List.length_append] at hlj
      have hwl := hwj.len
      have he := F_spec_l13End_eq ha htl hdj hwj
      rw [show ((0 + 1 + (us.take j).flatten.length : Nat) : Int) = 1 + ((us.take j).flatten.length : Int) by omega] at he
      simp only [show (j : Int) < (us.length : Int) by omega, decide_true, if_true, he, Option.bind_some]
      rw [if_pos (by omega), List.length_take, if_pos (by omega), w64 (n := (j : Int) + 1) (by omega) (by omega)]
      have hts : ((x :: us.flatten).take (1 + ((us.take j).flatten.length : Int) + us[j].length).toNat).drop (1 + ((us.take j).flatten.length : Int)).toNat = us[j] := by
        rw [show (1 + ((us.take j).flatten.length : Int)).toNat = 0 + 1 + (us.take j).flatten.length by omega,
          show (1 + ((us.take j).flatten.length : Int) + us[j].length).toNat = 0 + 1 + (us.take j).flatten.length + us[j].length by omega, List.drop_take, hdj,
          show 0 + 1 + (us.take j).flatten.length + us[j].length - (0 + 1 + (us.take j).flatten.length) = us[j].length by omega, List.take_left]
      rw [hts]
      refine .some ⟨⟨j + 1, by omega, ?_, ?_, by simp⟩, by simp; omega⟩
      · simp only; rw [List.take_add_one, List.getElem?_eq_getElem hj]; rfl
      · simp only [flat_take hj, List.length_append]; omega
    · obtain rfl : j = us.length := by omega
      simp only [Int.lt_irrefl, decide_false, Bool.false_eq_true, if_false, Option.map_some]
      refine .some ?_
      simp only [Rnd, List.take_length]
  exact key.eq
theorem F_spec_l15Add_ok {f g : Fm} {B c : Int} (hf : Bnd f B) (hB : B ≤ 27000000000009) (hg : Bnd g 1000000000000) (h1 : 1 ≤ c) (h9 : c ≤ 9) :
    Okk True (F_spec_l15Add f g c) fun r => if FmOk M12 (addc f c g) then r = (addc f c g, true) else r.2 = false := by
  have hfl := hf.l
  have hgl := hg.l
  have b1 := hf.c
  have b2 := hf.lo.1
  have b3 := hg.c
  have b4 := hg.lo.1
  have m1 := Int.mul_le_mul_of_nonneg_right h9 b4
  have m2 := Int.mul_nonneg (show 0 ≤ c by omega) b4
  unfold F_spec_l15Add
  rw [if_pos (by omega)]
  refine Okk.loop (fun q : Int × List Int => ∃ i : Nat, q.1 = i ∧ i ≤ g.2.length ∧ q.2.length = max f.2.length i ∧ ∀ j, q.2.getD j 0 = f.2.getD j 0 + (if j < i then c * g.2.getD j 0 else 0)) (fun q : Int × List Int => g.2.length - q.1.toNat) ⟨0, rfl, by omega, by simp, fun j => by rw [if_neg (by omega), Int.add_zero]⟩ ?_
  rintro ⟨_, z⟩ ⟨i, rfl, h2, h3, h4⟩
  simp only at h3 h4
  simp only [F_spec_l15Add_l1]
  by_cases hi : i < g.2.length
  · have c1 := hf.i i
    have c2 := hf.lo.2 i
    have c3 := hg.i i
    have c4 := hg.lo.2 i
    have n1 := Int.mul_le_mul_of_nonneg_right h9 c4
    have n2 := Int.mul_nonneg (show 0 ≤ c by omega) c4
    have eg : g.2.getD i default = g.2.getD i 0 := rfl
    have ez : z.getD i 0 = f.2.getD i 0 := by rw [h4 i, if_neg (by omega), Int.add_zero]
    simp only [show (i : Int) < (g.2.length : Int) by omega, decide_true, if_true, show (0 : Int) ≤ i by omega, and_self, Int.toNat_natCast, eg, w64 (n := (i : Int) + 1) (by omega) (by omega), w64 (n := c * g.2.getD i 0) (by omega) (by omega)]
    by_cases hz : z.length ≤ i
    · have hl1 : (z ++ [0]).length = i + 1 := by simp; omega
      have e0 : (z ++ [0]).getD i default = f.2.getD i 0 := (getD_app0 (xs := z) (i := i)).trans ez
      simp only [show (z.length : Int) ≤ i by omega, decide_true, if_true, show (z.length + 1) * 8 ≤ 140737488355328 by omega, hl1, show (i : Int) < ((i + 1 : Nat) : Int) by omega, e0, w64 (n := f.2.getD i 0 + c * g.2.getD i 0) (by omega) (by omega)]
      refine .some ⟨⟨i + 1, by simp, by omega, by simp; omega, fun j => ?_⟩, by simp; omega⟩
      simp only
      rw [getD_set' (by omega)]
      by_cases hj : j = i
      · subst hj; rw [if_pos rfl, if_pos (by omega)]
      · rw [if_neg hj, getD_app0, h4 j]
        by_cases hji : j < i
        · rw [if_pos hji, if_pos (by omega)]
        · rw [if_neg hji, if_neg (by omega)]
    · have e0 : z.getD i default = f.2.getD i 0 := ez
      simp only [show ¬ (z.length : Int) ≤ i by omega, decide_false, Bool.false_eq_true, if_false, show (i : Int) < (z.length : Int) by omega, if_true, e0, w64 (n := f.2.getD i 0 + c * g.2.getD i 0) (by omega) (by omega)]
      refine .some ⟨⟨i + 1, by simp, by omega, by simp; omega, fun j => ?_⟩, by simp; omega⟩
      simp only
      rw [getD_set' (by omega)]
      by_cases hj : j = i
      · subst hj; rw [if_pos rfl, if_pos (by omega)]
      · rw [if_neg hj, h4 j]
        by_cases hji : j < i
        · rw [if_pos hji, if_pos (by omega)]
        · rw [if_neg hji, if_neg (by omega)]
  · have hz : z = zadd c f.2 g.2 := zadd_of (by omega) fun j => by
      rw [h4 j]
      by_cases hj : j < i
      · rw [if_pos hj]
      · rw [if_neg hj, List.getD_eq_getElem?_getD (l := g.2), List.getElem?_eq_none (by omega)]; simp
    simp only [show ¬ (i : Int) < (g.2.length : Int) by omega, decide_false, Bool.false_eq_true, if_false]
    refine Okk.inr ?_
    simp only [Rnd]
    have hadd : addc f c g = (f.1 + c * g.1, z) := by rw [hz]; rfl
    rw [hadd]
    refine Okk.loop (fun q : Int => ∃ i : Nat, q = i ∧ i ≤ z.length ∧ ∀ j < i, z.getD j 0 ≤ 1000000000000) (fun q : Int => z.length - q.toNat) ⟨0, rfl, by omega, by omega⟩ ?_
    rintro _ ⟨v, rfl, h5, h6⟩
    simp only [F_spec_l15Add_l2]
    by_cases hv : v < z.length
    · simp only [show (v : Int) < (z.length : Int) by omega, decide_true, if_true, show (0 : Int) ≤ v by omega, and_self, Int.toNat_natCast, getD_get hv, w64 (n := (v : Int) + 1) (by omega) (by omega)]
      have e : z.getD v 0 = z[v] := getD_get hv
      by_cases h7 : 1000000000000 < z[v]
      · simp only [h7, decide_true, if_true, Option.map_some]
        refine .some ?_
        simp only [Rnd]
        rw [if_neg fun h => by have := h.2 v; simp only [M12] at this; omega]; trivial
      · simp only [h7, decide_false, Bool.false_eq_true, if_false]
        refine .some ⟨⟨v + 1, by simp, by omega, fun j hj => ?_⟩, by simp; omega⟩
        rcases Nat.lt_or_ge j v with h8 | h8
        · exact h6 j h8
        · obtain rfl : j = v := by omega
          omega
    · simp only [show ¬ (v : Int) < (z.length : Int) by omega, decide_false, Bool.false_eq_true, if_false, Option.map_some, w64 (n := c * g.1) (by omega) (by omega), w64 (n := f.1 + c * g.1) (by omega) (by omega)]
      refine .some ?_
      simp only [Rnd]
      by_cases h7 : f.1 + c * g.1 ≤ 1000000000000
      · have hok : FmOk M12 (f.1 + c * g.1, z) := ⟨h7, fun j => by
          show z.getD j 0 ≤ 1000000000000
          by_cases hj : j < v
          · exact h6 j hj
          · rw [List.getD_eq_getElem?_getD, List.getElem?_eq_none (by omega)]; decide⟩
        rw [if_pos hok]
        simp [h7]
      · rw [if_neg fun h => h7 h.1]
        simp [h7]
theorem appF_split : ∀ (i : Nat) (cs : List Int) (gs : List Fm) (f : Fm), cs.length = gs.length → appF f cs gs = appF (appF f (cs.take i) (gs.take i)) (cs.drop i) (gs.drop i)
  | 0, cs, gs, f, _ => by simp [appF]
  | i + 1, [], gs, f, h => by cases gs with | nil => simp [appF] | cons g gs => simp at h
  | i + 1, c :: cs, [], f, h => by simp at h
  | i + 1, c :: cs, g :: gs, f, h => by
    simp only [List.take_succ_cons, List.drop_succ_cons, appF]
    exact appF_split i cs gs _ (by simpa using h)
theorem F_spec_l15Form_ok {a : List Int} {ps : List Fm} (hp : polyOk a ps) (ha : sigOk a = true) : ∀ (fu : Nat) {u : List Int}, u.length ≤ 60 → Wf a 1 u → Okk (u.length ≤ fu) (F_spec_l15Form fu a ps u) (· = encF (fm a ps u))
  | 0, u, _, hu => ⟨fun _ h => by simp [F_spec_l15Form] at h, fun h => by have := hu.len; omega⟩
  | fu + 1, u, hl60, hu => by
    obtain ⟨x, r, rfl, ho, hr⟩ := hu.pos
    rw [Nat.zero_add] at hr
    have h0 : (0 : Nat) ≤ 0 ∧ (0 : Int) < ((x :: r).length : Int) := by simp only [List.length_cons]; omega
    unfold F_spec_l15Form
    rw [if_pos h0]
    simp only [List.getD_cons_zero]
    by_cases hn : x < 0
    · have hx24 := ho.1
      have e1 : IntKind.i64.wrap (0 - x) = -x := by rw [w64 (by omega) (by omega)]; omega
      have e2 : IntKind.i64.wrap (-1 - x) = -1 - x := w64 (by omega) (by omega)
      have e3 : (-x).toNat = (-1 - x).toNat + 1 := by omega
      simp only [hn, decide_true, if_true, if_pos h0, e1, e2, e3, rep_set]
      rw [if_pos (by omega), if_pos (by simp only [List.length_replicate]; omega), if_pos (by simp)]
      rw [fm_var hn, encF_ok ⟨Int.le_trans (varF_facts x).2.1 (by decide), fun j => Int.le_trans ((varF_facts x).2.2 j) (by decide)⟩]
      exact .some rfl
    · obtain ⟨us, h1, rfl, h2⟩ := wf_list hr
      have hlt : x.toNat < ps.length := by have := ho.2; have := hp.1; omega
      obtain ⟨⟨h6, h7⟩, _, h8⟩ := hp.2 _ hlt
      have h3 := ari_le ha x
      have hpl := ari_ps hp hn ho
      simp only [hn, decide_false, Bool.false_eq_true, if_false, if_pos h0]
      rw [if_pos (by omega), F_spec_l13Parts_eq ha hl60 hn ho h1 h2, Option.bind_some]
      refine Okk.bind (P := (· = encF (fm a ps (x :: us.flatten)))) ?_ fun q hq => .some hq
      unfold F_spec_l15Sum
      have step : ∀ i, i ≤ us.length → (∀ u ∈ us.take i, FmOk M12 (fm a ps u)) → Bnd (appF ((ps.getD x.toNat default).1, []) ((ps.getD x.toNat default).2.take i) ((us.map (fm a ps)).take i)) (9 + 9000000000000 * i) := by
        intro i
        induction i with
        | zero => intro _ _; exact ⟨⟨by simpa [appF] using h6, fun j => by simp [appF]⟩, by simpa [appF] using h7, fun j => by simp [appF], by simp [appF]⟩
        | succ i ih =>
          intro hi hok
          have q1 : i < (ps.getD x.toNat default).2.length := by omega
          have q2 : i < (us.map (fm a ps)).length := by rw [List.length_map]; omega
          have q3 : i < us.length := by omega
          rw [appF_take (gs := us.map (fm a ps)) q1 q2]
          have hb := h8 _ (List.getElem_mem q1)
          have hm : us[i] ∈ us.take (i + 1) := by rw [List.take_add_one, List.getElem?_eq_getElem q3]; exact List.mem_append_right _ (by simp)
          have := addc_bnd (ih (by omega) fun u hu => hok u (by rw [List.take_add_one]; exact List.mem_append_left _ hu)) (g := (us.map (fm a ps))[i]) (by rw [List.getElem_map]; exact fm_Bnd hp ha (h2 _ (List.getElem_mem q3)) (hok _ hm)) hb.1 hb.2
          rw [show (9 : Int) + 9000000000000 * ((i + 1 : Nat) : Int) = 9 + 9000000000000 * (i : Int) + 9000000000000 by omega]
          exact this
      refine Okk.loop (fun q : Int × Int × List Int => ∃ j : Nat, q.1 = j ∧ j ≤ us.length ∧ (q.2.1, q.2.2) = appF ((ps.getD x.toNat default).1, []) ((ps.getD x.toNat default).2.take j) ((us.map (fm a ps)).take j) ∧ (∀ u ∈ us.take j, FmOk M12 (fm a ps u)) ∧ FmOk M12 (q.2.1, q.2.2))
        (fun q : Int × Int × List Int => us.length - q.1.toNat) ⟨0, rfl, by omega, by simp [appF], by simp, Int.le_trans h7 (by decide), fun j => by show ([] : List Int).getD j 0 ≤ M12; rw [List.getD_nil]; decide⟩ ?_
      rintro ⟨_, o, z⟩ ⟨j, rfl, h4, h5, h9, h10⟩
      simp only at h5 h10
      have hb := step j h4 h9
      rw [← h5] at hb
      simp only [F_spec_l15Sum_l1]
      by_cases hj : j < us.length
      · have hwj := h2 _ (List.getElem_mem hj)
        have hsub := (List.sublist_flatten_of_mem (List.getElem_mem hj)).length_le
        have hjp : j < (ps.getD x.toNat default).2.length := by omega
        have hcc := h8 _ (List.getElem_mem hjp)
        rw [List.length_cons] at hl60
        simp only [show (j : Int) < (us.length : Int) by omega, show (j : Int) < ((ps.getD x.toNat default).2.length : Int) by omega, decide_true, if_true, show (0 : Int) ≤ j by omega, and_self, Int.toNat_natCast, getD_get hj, getD_get hjp]
        refine Okk.bind ((F_spec_l15Form_ok hp ha fu (u := us[j]) (by omega) hwj).weak fun hf => by rw [List.length_cons] at hf; omega) fun q hq => ?_
        subst hq
        by_cases hk : FmOk M12 (fm a ps us[j])
        · rw [encF_ok hk]
          simp only [if_true]
          refine Okk.bind ((F_spec_l15Add_ok hb (by omega) (fm_Bnd hp ha hwj hk) hcc.1 hcc.2).weak fun _ => trivial) fun q hq => ?_
          have hat := appF_take (gs := us.map (fm a ps)) (f := ((ps.getD x.toNat default).1, [])) hjp (show j < (us.map (fm a ps)).length by rw [List.length_map]; exact hj)
          rw [List.getElem_map, ← h5] at hat
          by_cases hok : FmOk M12 (addc (o, z) (ps.getD x.toNat default).2[j] (fm a ps us[j]))
          · rw [if_pos hok] at hq
            subst hq
            simp only [if_true, w64 (n := (j : Int) + 1) (by omega) (by omega)]
            refine .some ⟨⟨j + 1, by simp, by omega, hat.symm, ?_, hok⟩, by simp; omega⟩
            intro u hu
            rw [List.take_add_one, List.getElem?_eq_getElem hj] at hu
            rcases List.mem_append.1 hu with hu | hu
            · exact h9 u hu
            · simp at hu; subst hu; exact hk
          · rw [if_neg hok] at hq
            simp only [hq, Bool.false_eq_true, if_false, Option.map_some]
            refine .some ?_
            simp only [Rnd]
            rw [encF_no fun h => hok ?_]
            rw [← hat]
            rw [fm_sym hn h2 h1, appF_split (j + 1) _ _ _ (by rw [List.length_map]; omega)] at h
            refine LeF.ok ((appF_facts ?_ (fun g hg => ?_) fun c hc => (h8 c (List.mem_of_mem_drop hc)).1).2.1) h
            · rw [hat]; exact (addc_facts hb.lo (fm_NN hp ha _ (Nat.le_refl _) hwj) hcc.1).1
            · obtain ⟨v, hv, rfl⟩ := List.mem_map.1 (List.mem_of_mem_drop hg)
              exact fm_NN hp ha _ (Nat.le_refl _) (h2 v hv)
        · rw [encF_no hk]
          simp only [Bool.false_eq_true, if_false, Option.map_some]
          refine .some ?_
          simp only [Rnd]
          rw [encF_no fun h => hk (fm_parts hp ha hn ho h1 h2 h _ (List.getElem_mem hj))]
      · obtain rfl : j = us.length := by omega
        simp only [Int.lt_irrefl, decide_false, Bool.false_eq_true, if_false, Option.map_some]
        refine .some ?_
        simp only [Rnd]
        rw [List.take_of_length_le (by omega), List.take_of_length_le (by rw [List.length_map]; omega), ← fm_sym hn h2 h1] at h5
        rw [← h5, encF_ok h10]
theorem F_spec_l15Form_eq {a t : List Int} {ps : List Fm} (hp : polyOk a ps) (ht : termOk a t = true) : F_spec_l15Form_all a ps t = some (encF (fm a ps t)) := by
  obtain ⟨ha, _, h2, hw⟩ := termOk_iff.1 ht
  have : Okk True (F_spec_l15Form_all a ps t) (· = encF (fm a ps t)) := by
    unfold F_spec_l15Form_all
    exact Okk.lim t.length fun n => F_spec_l15Form_ok hp ha n h2 hw
  exact this.eq
end Go.Proofs.YtcaljngigbfadaaGreat
namespace Go.Proofs.YtcaljngigbfadaaGreat
open Go Abx Tm
/-! ### Orientation -/
theorem range_getD {n i : Nat} (h : i < n) : (List.range n).getD i default = i := by
  simp [List.getD_eq_getElem?_getD, List.getElem?_range h]
theorem loop_allN {n : Nat} {p : Nat → Bool} {f : Int → Option (Int ⊕ Bool)} (h : ∀ i : Nat, i < n → f i = some (if p i = true then .inl ((i : Int) + 1) else .inr false)) (he : f n = some (.inr true)) : loopC f 0 = some ((List.range n).all p) :=
  loop_all (xs := List.range n) (fun i x hi _ _ hx => by
    rw [List.length_range] at hi
    rw [range_getD hi] at hx
    subst hx
    exact h i hi) (by rw [List.length_range]; exact he)
def polyB (p : Fm) (n : Int) : Bool := decide ((p.2.length : Int) = n) && (decide (0 ≤ p.1) && (decide (p.1 ≤ 9) && p.2.all fun c => decide (0 ≤ c) && decide (c ≤ 9)))
def polysB (a : List Int) (ps : List Fm) : Bool := sigOk a && (decide (ps.length = a.length) && (List.range ps.length).all fun i => polyB (ps.getD i default) (a.getD i default))
theorem any_not {α : Type} {xs : List α} {p : α → Bool} : xs.any (fun x => !p x) = !xs.all p := by
  induction xs with
  | nil => rfl
  | cons x xs ih => simp only [List.any_cons, List.all_cons, ih, Bool.not_and]
theorem F_impl_PolysOk_eq (a : List Int) (ps : List Fm) : F_impl_PolysOk a ps = some (polysB a ps) := by
  unfold F_impl_PolysOk polysB
  rw [F_impl_SigOk_eq, Option.bind_some]
  cases h1 : sigOk a with
  | false => simp
  | true =>
    obtain ⟨_, h8, ha⟩ := sigOk_iff.1 h1
    by_cases hl : ps.length = a.length
    · have : ¬ ((ps.length : Int) != (a.length : Int)) = true := by simp; omega
      rw [if_pos rfl, if_neg this, decide_eq_true hl, Bool.true_and, Bool.true_and]
      refine loop_allN (fun i hi => ?_) (by simp [F_impl_PolysOk_l1])
      have hia : i < a.length := by omega
      have hai := ha _ (getD_mem hia)
      simp only [F_impl_PolysOk_l1, show (i : Int) < ps.length by omega, show (i : Int) < a.length by omega, decide_true, if_true, show (0 : Int) ≤ i by omega, and_self, Int.toNat_natCast]
      unfold polyB
      by_cases e1 : ((ps.getD i default).2.length : Int) = a.getD i default
      · have : ¬ (((ps.getD i default).2.length : Int) != a.getD i default) = true := by simp only [bne_iff_ne, ne_eq, Decidable.not_not]; exact e1
        rw [if_neg this, decide_eq_true e1, Bool.true_and]
        by_cases e2 : (ps.getD i default).1 < 0
        · rw [if_pos (by simpa using e2), decide_eq_false (show ¬ 0 ≤ (ps.getD i default).1 by omega)]; rfl
        · rw [if_neg (by simpa using e2), decide_eq_true (show 0 ≤ (ps.getD i default).1 by omega), Bool.true_and]
          by_cases e3 : 9 < (ps.getD i default).1
          · rw [if_pos (by simpa using e3), decide_eq_false (show ¬ (ps.getD i default).1 ≤ 9 by omega)]; rfl
          · rw [if_neg (by simpa using e3), decide_eq_true (show (ps.getD i default).1 ≤ 9 by omega), Bool.true_and]
            rw [loop_any (xs := (ps.getD i default).2) (p := fun c => !(decide (0 ≤ c) && decide (c ≤ 9))) (y := Sum.inr false) (n := Sum.inl ((i : Int) + 1)) (fun v x hv hv' _ hx => ?h) ?he, any_not]
            · cases (ps.getD i default).2.all fun c => decide (0 ≤ c) && decide (c ≤ 9) <;> rfl
            case h =>
              simp only [F_impl_PolysOk_l2, Int.toNat_natCast, hv', decide_true, if_true, show (0 : Int) ≤ v by omega, and_self, hx, w64 (n := (v : Int) + 1) (by omega) (by omega)]
              by_cases c1 : x < 0
              · simp [c1, show ¬ 0 ≤ x by omega]
              · by_cases c2 : 9 < x
                · simp [c1, c2, show ¬ x ≤ 9 by omega]
                · simp [c1, c2, show 0 ≤ x by omega, show x ≤ 9 by omega]
            case he =>
              simp only [F_impl_PolysOk_l2, Int.toNat_natCast, Int.lt_irrefl, decide_false, Bool.false_eq_true, if_false, Option.map_some, w64 (n := (i : Int) + 1) (by omega) (by omega)]
      · have : (((ps.getD i default).2.length : Int) != a.getD i default) = true := by simp only [bne_iff_ne, ne_eq]; exact e1
        rw [if_pos this, decide_eq_false e1]; rfl
    · have : ((ps.length : Int) != (a.length : Int)) = true := by simp; omega
      simp [this, hl]
theorem F_spec_l15Poly_eq {p : Fm} {n : Int} (hn : n ≤ 3) : F_spec_l15Poly p n = some (polyB p n) := by
  unfold F_spec_l15Poly polyB
  rw [F_spec_l1In_eq, Option.bind_some]
  by_cases e2 : 0 ≤ p.1
  · by_cases e3 : p.1 ≤ 9
    · simp only [e2, e3, decide_true, Bool.and_self, if_true, Bool.true_and]
      by_cases e1 : (p.2.length : Int) = n
      · have : ¬ ((p.2.length : Int) != n) = true := by simp only [bne_iff_ne, ne_eq, Decidable.not_not]; exact e1
        rw [if_neg this, decide_eq_true e1, Bool.true_and]
        refine loop_all (fun v x hv hv' _ hx => ?_) (by simp [F_spec_l15Poly_l1])
        simp only [F_spec_l15Poly_l1, Int.toNat_natCast, hv', decide_true, if_true, show (0 : Int) ≤ v by omega, and_self, hx, w64 (n := (v : Int) + 1) (by omega) (by omega), F_spec_l1In_eq, Option.bind_some]
        by_cases c1 : 0 ≤ x <;> by_cases c2 : x ≤ 9 <;> simp [c1, c2]
      · have : ((p.2.length : Int) != n) = true := by simp only [bne_iff_ne, ne_eq]; exact e1
        rw [if_pos this, decide_eq_false e1]; rfl
    · simp [e2, e3]
  · simp [e2]
theorem F_spec_PolysOk_eq (a : List Int) (ps : List Fm) : F_spec_PolysOk a ps = some (polysB a ps) := by
  unfold F_spec_PolysOk polysB
  rw [F_spec_SigOk_eq, Option.bind_some]
  cases h1 : sigOk a with
  | false => simp
  | true =>
    obtain ⟨_, h8, ha⟩ := sigOk_iff.1 h1
    by_cases hl : ps.length = a.length
    · have : ¬ ((ps.length : Int) != (a.length : Int)) = true := by simp; omega
      rw [if_pos rfl, if_neg this, decide_eq_true hl, Bool.true_and, Bool.true_and]
      refine loop_allN (fun i hi => ?_) (by simp [F_spec_PolysOk_l1])
      have hia : i < a.length := by omega
      have hai := ha _ (getD_mem hia)
      simp only [F_spec_PolysOk_l1, show (i : Int) < ps.length by omega, show (i : Int) < a.length by omega, decide_true, if_true, show (0 : Int) ≤ i by omega, and_self, Int.toNat_natCast, w64 (n := (i : Int) + 1) (by omega) (by omega)]
      rw [F_spec_l15Poly_eq hai.2, Option.bind_some]
      cases polyB (ps.getD i default) (a.getD i default) <;> rfl
    · have : ((ps.length : Int) != (a.length : Int)) = true := by simp; omega
      simp [this, hl]
theorem polysB_iff {a : List Int} {ps : List Fm} : polysB a ps = true ↔ sigOk a = true ∧ ps.length = a.length ∧ ∀ i < ps.length, ((ps.getD i default).2.length : Int) = a.getD i default ∧ 0 ≤ (ps.getD i default).1 ∧ (ps.getD i default).1 ≤ 9 ∧ ∀ c ∈ (ps.getD i default).2, 0 ≤ c ∧ c ≤ 9 := by
  simp only [polysB, polyB, Bool.and_eq_true, decide_eq_true_eq, List.all_eq_true, List.mem_range]
def strictB (a : List Int) (ps : List Fm) : Bool := polysB a ps && ps.all fun p => p.2.all fun c => decide (1 ≤ c)
theorem strictB_poly {a : List Int} {ps : List Fm} (h : strictB a ps = true) : polyOk a ps ∧ sigOk a = true := by
  simp only [strictB, Bool.and_eq_true, List.all_eq_true, decide_eq_true_eq] at h
  obtain ⟨h1, h2⟩ := h
  obtain ⟨h3, h4, h5⟩ := polysB_iff.1 h1
  refine ⟨⟨h4, fun i hi => ?_⟩, h3⟩
  obtain ⟨h6, h7, h8, h9⟩ := h5 i hi
  exact ⟨⟨h7, h8⟩, h6, fun c hc => ⟨h2 _ (getD_mem hi) c hc, (h9 c hc).2⟩⟩
theorem polys_small {a : List Int} {ps : List Fm} (h : polysB a ps = true) : ps.length ≤ 8 ∧ ∀ p ∈ ps, p.2.length ≤ 3 ∧ 0 ≤ p.1 ∧ p.1 ≤ 9 ∧ ∀ c ∈ p.2, 0 ≤ c ∧ c ≤ 9 := by
  obtain ⟨h3, h4, h5⟩ := polysB_iff.1 h
  obtain ⟨_, h8, ha⟩ := sigOk_iff.1 h3
  refine ⟨by omega, fun p hp => ?_⟩
  obtain ⟨i, hi, rfl⟩ := List.getElem_of_mem hp
  obtain ⟨h6, h7, h9, h10⟩ := h5 i hi
  rw [getD_get hi] at h6 h7 h9 h10
  have := ha _ (getD_mem (show i < a.length by omega))
  exact ⟨by omega, h7, h9, h10⟩
theorem F_impl_StrictIn_eq (a : List Int) (ps : List Fm) : F_impl_StrictIn a ps = some (strictB a ps) := by
  unfold F_impl_StrictIn strictB
  rw [F_impl_PolysOk_eq, Option.bind_some]
  cases h : polysB a ps with
  | false => simp
  | true =>
    obtain ⟨h1, h2⟩ := polys_small h
    simp only [if_true, Bool.true_and]
    unfold F_slices_ContainsFunc_impl_Poly_impl_Poly
    have key : Okk True (F_slices_IndexFunc_impl_Poly_impl_Poly ps) fun r => 0 ≤ r ↔ ∃ p ∈ ps, (0 : Int) ∈ p.2 := by
      unfold F_slices_IndexFunc_impl_Poly_impl_Poly
      refine Okk.loop (fun i' : Int => ∃ i : Nat, i' = i ∧ i ≤ ps.length ∧ ∀ p ∈ ps.take i, (0 : Int) ∉ p.2) (fun i' : Int => ps.length - i'.toNat) ⟨0, rfl, by omega, by simp⟩ ?_
      rintro _ ⟨i, rfl, h3, h4⟩
      simp only [F_slices_IndexFunc_impl_Poly_impl_Poly_l1]
      by_cases hi : i < ps.length
      · have := (h2 _ (List.getElem_mem hi)).1
        simp only [show (i : Int) < ps.length by omega, decide_true, if_true, show (0 : Int) ≤ i by omega, and_self, Int.toNat_natCast, getD_get hi, F_impl_StrictIn_1, F_slices_Contains_eq (show Small (ps[i]).2 by show List.length _ < _; omega), Option.bind_some, w64 (n := (i : Int) + 1) (by omega) (by omega)]
        by_cases hz : (0 : Int) ∈ (ps[i]).2
        · simp only [hz, decide_true, if_true, Option.map_some]
          refine .some ?_
          simp only [Rnd]
          exact ⟨fun _ => ⟨_, List.getElem_mem hi, hz⟩, fun _ => by omega⟩
        · simp only [hz, decide_false, Bool.false_eq_true, if_false]
          refine .some ⟨⟨i + 1, by simp, by omega, fun p hp => ?_⟩, by simp; omega⟩
          rw [List.take_add_one, List.getElem?_eq_getElem hi] at hp
          rcases List.mem_append.1 hp with hp | hp
          · exact h4 p hp
          · simp at hp; subst hp; exact hz
      · simp only [show ¬ (i : Int) < ps.length by omega, decide_false, Bool.false_eq_true, if_false, Option.map_some]
        refine .some ?_
        rw [List.take_of_length_le (by omega)] at h4
        simp only [Rnd]
        exact ⟨fun h => by omega, fun ⟨p, hp, hz⟩ => absurd hz (h4 p hp)⟩
    obtain ⟨r, e1, e2⟩ := key.get
    rw [e1, Option.bind_some, Option.bind_some]
    congr 1
    by_cases hz : ∃ p ∈ ps, (0 : Int) ∈ p.2
    · rw [decide_eq_true (e2.2 hz)]
      obtain ⟨p, hp, hz⟩ := hz
      symm
      rw [Bool.not_true, List.all_eq_false]
      exact ⟨p, hp, by rw [Bool.not_eq_true, List.all_eq_false]; exact ⟨0, hz, by decide⟩⟩
    · rw [decide_eq_false (mt e2.1 hz)]
      symm
      rw [Bool.not_false, List.all_eq_true]
      intro p hp
      rw [List.all_eq_true]
      intro c hc
      have := ((h2 p hp).2.2.2 c hc).1
      have : c ≠ 0 := by rintro rfl; exact hz ⟨p, hp, hc⟩
      simp; omega
theorem F_spec_StrictIn_eq (a : List Int) (ps : List Fm) : F_spec_StrictIn a ps = some (strictB a ps) := by
  unfold F_spec_StrictIn strictB
  rw [F_spec_PolysOk_eq, Option.bind_some]
  cases h : polysB a ps with
  | false => simp
  | true =>
    obtain ⟨h1, h2⟩ := polys_small h
    simp only [if_true, Bool.true_and]
    refine loop_all (fun i x hi hi' hm hx => ?_) (by simp [F_spec_StrictIn_l1])
    have hs := (h2 x hm).1
    simp only [F_spec_StrictIn_l1, hi', decide_true, if_true]
    rw [loop_any (xs := x.2) (p := fun c => !(decide (1 ≤ c))) (y := Sum.inr false) (n := Sum.inl ((i : Int) + 1)) (fun v c hv hv' _ hc => ?h) ?he, any_not]
    · cases x.2.all fun c => decide (1 ≤ c) <;> rfl
    case h =>
      simp only [F_spec_StrictIn_l2, Int.toNat_natCast, hi', show (0 : Int) ≤ i by omega, and_self, if_true, hx, hv', decide_true, show (0 : Int) ≤ v by omega, hc, w64 (n := (v : Int) + 1) (by omega) (by omega)]
      by_cases c1 : c < 1
      · simp [c1, show ¬ 1 ≤ c by omega]
      · simp [c1, show 1 ≤ c by omega]
    case he =>
      simp only [F_spec_StrictIn_l2, Int.toNat_natCast, hi', show (0 : Int) ≤ i by omega, and_self, if_true, hx, Int.lt_irrefl, decide_false, Bool.false_eq_true, if_false, Option.map_some, w64 (n := (i : Int) + 1) (by omega) (by omega)]
def leB (f g : Fm) : Bool := (List.range f.2.length).all fun i => decide (f.2.getD i 0 ≤ g.2.getD i 0)
theorem leB_iff {f g : Fm} (hg : NN g) : leB f g = true ↔ ∀ i, f.2.getD i 0 ≤ g.2.getD i 0 := by
  simp only [leB, List.all_eq_true, List.mem_range, decide_eq_true_eq]
  refine ⟨fun h i => ?_, fun h i _ => h i⟩
  by_cases hi : i < f.2.length
  · exact h i hi
  · rw [List.getD_eq_getElem?_getD, List.getElem?_eq_none (by omega)]; exact hg.2 i
def downB (a : List Int) (ps : List Fm) (r : List Int × List Int) : Bool := decide (FmOk M12 (fm a ps r.2)) && (decide (FmOk M12 (fm a ps r.1)) && (decide ((fm a ps r.2).1 < (fm a ps r.1).1) && leB (fm a ps r.2) (fm a ps r.1)))
theorem F_impl_atMost_eq {f g : Fm} (hl : f.2.length ≤ 24) : F_impl_atMost f g = some (if leB f g = true then (decide (f.1 ≤ g.1), decide (f.1 < g.1)) else (false, false)) := by
  unfold F_impl_atMost
  rw [loop_any (xs := List.range f.2.length) (p := fun i => !(decide (f.2.getD i 0 ≤ g.2.getD i 0))) (y := (false, false)) (n := (decide (f.1 ≤ g.1), decide (f.1 < g.1))) (fun v x hv hv' _ hx => ?h) ?he, any_not]
  · unfold leB; cases (List.range f.2.length).all fun i => decide (f.2.getD i 0 ≤ g.2.getD i 0) <;> rfl
  case h =>
    rw [List.length_range] at hv hv'
    rw [range_getD hv] at hx
    subst hx
    have hco : F_impl_Poly_coef g v = some (g.2.getD v 0) := by
      unfold F_impl_Poly_coef F_impl_line_int64_at
      by_cases h : v < g.2.length
      · have e : g.2.getD v 0 = g.2[v] := getD_get h
        simp only [show ¬ (g.2.length : Int) ≤ v by omega, decide_false, Bool.false_eq_true, if_false, show (0 : Int) ≤ v by omega, show (v : Int) < g.2.length by omega, and_self, if_true, Int.toNat_natCast, getD_get h, e, Option.bind_some]
      · have e : g.2.getD v 0 = 0 := by rw [List.getD_eq_getElem?_getD, List.getElem?_eq_none (by omega)]; rfl
        rw [e]
        simp only [show (g.2.length : Int) ≤ v by omega, decide_true, if_true, Option.bind_some]
    have ef : f.2.getD v default = f.2.getD v 0 := rfl
    simp only [F_impl_atMost_l1, hv', decide_true, if_true, show (0 : Int) ≤ v by omega, and_self, Int.toNat_natCast, hco, Option.bind_some, ef, w64 (n := (v : Int) + 1) (by omega) (by omega)]
    by_cases c : g.2.getD v 0 < f.2.getD v 0
    · rw [if_pos (by simpa using c), decide_eq_false (show ¬ f.2.getD v 0 ≤ g.2.getD v 0 by omega)]; rfl
    · rw [if_neg (by simpa using c), decide_eq_true (show f.2.getD v 0 ≤ g.2.getD v 0 by omega)]; rfl
  case he =>
    rw [List.length_range]
    simp [F_impl_atMost_l1]
theorem F_spec_l15Most_eq {f g : Fm} (hl : f.2.length ≤ 24) (hf : NN f) (hg : NN g) : F_spec_l15Most f g = some (leB f g) := by
  unfold F_spec_l15Most leB
  refine loop_allN (fun v hv => ?_) (by simp [F_spec_l15Most_l1])
  have ef : f.2.getD v default = f.2.getD v 0 := rfl
  have hv' : (v : Int) < f.2.length := by omega
  simp only [F_spec_l15Most_l1, hv', decide_true, if_true, show (0 : Int) ≤ v by omega, and_self, Int.toNat_natCast, ef, w64 (n := (v : Int) + 1) (by omega) (by omega)]
  have h1 := hf.2 v
  have h2 := hg.2 v
  by_cases c : 0 < f.2.getD v 0
  · rw [if_pos (by simpa using c)]
    by_cases hb : v < g.2.length
    · have eg : g.2.getD v default = g.2.getD v 0 := rfl
      simp only [show ¬ (g.2.length : Int) ≤ v by omega, decide_false, Bool.false_eq_true, if_false, show (v : Int) < g.2.length by omega, show (0 : Int) ≤ v by omega, and_self, true_and, if_true, eg]
      by_cases c2 : g.2.getD v 0 < f.2.getD v 0
      · rw [if_pos (by simpa using c2), decide_eq_false (show ¬ f.2.getD v 0 ≤ g.2.getD v 0 by omega)]; rfl
      · rw [if_neg (by simpa using c2), decide_eq_true (show f.2.getD v 0 ≤ g.2.getD v 0 by omega)]; rfl
    · have eg : g.2.getD v 0 = 0 := by rw [List.getD_eq_getElem?_getD, List.getElem?_eq_none (by omega)]; rfl
      simp only [show (g.2.length : Int) ≤ v by omega, decide_true, if_true, Option.map_some]
      rw [decide_eq_false (show ¬ f.2.getD v 0 ≤ g.2.getD v 0 by omega)]; rfl
  · rw [if_neg (by simpa using c), decide_eq_true (show f.2.getD v 0 ≤ g.2.getD v 0 by omega)]; rfl
end Go.Proofs.YtcaljngigbfadaaGreat
namespace Go.Proofs.YtcaljngigbfadaaGreat
open Go Abx Tm
def orientB (s : Sys) (ps : List Fm) : Bool := sysOk s && (strictB s.1 ps && s.2.all (downB s.1 ps))
theorem F_impl_compareForms_eq {a : List Int} {ps : List Fm} (hp : polyOk a ps) {r : List Int × List Int} (h1 : termOk a r.1 = true) (h2 : termOk a r.2 = true) :
    Okk True (F_impl_compareForms a ps r.2 r.1) fun q => (q.1 && q.2) = downB a ps r := by
  obtain ⟨ha, _, _, hw2⟩ := termOk_iff.1 h2
  unfold F_impl_compareForms downB
  rw [F_impl_formAt_eq hp h2, Option.bind_some, F_impl_formAt_eq hp h1, Option.bind_some]
  by_cases e1 : FmOk M12 (fm a ps r.2)
  · by_cases e2 : FmOk M12 (fm a ps r.1)
    · rw [encF_ok e1, encF_ok e2]
      simp only [if_true]
      rw [F_impl_atMost_eq (fm_bnd hp ha _ (Nat.le_refl _) hw2), Option.bind_some]
      refine .some ?_
      rw [decide_eq_true e1, decide_eq_true e2]
      cases h : leB (fm a ps r.2) (fm a ps r.1) with
      | false => simp
      | true =>
        simp only [if_true, Bool.true_and, Bool.and_true]
        by_cases c : (fm a ps r.2).1 < (fm a ps r.1).1
        · simp [c, Int.le_of_lt c]
        · simp [c]
    · rw [encF_ok e1, encF_no e2]
      simp only [if_true, Bool.false_eq_true, if_false]
      refine .some ?_
      rw [decide_eq_true e1, decide_eq_false e2]; rfl
  · rw [encF_no e1]
    simp only [Bool.false_eq_true, if_false]
    refine .some ?_
    rw [decide_eq_false e1]; rfl
theorem F_impl_PolyOrients_eq (s : Sys) (ps : List Fm) : F_impl_PolyOrients s ps = some (orientB s ps) := by
  unfold F_impl_PolyOrients orientB
  rw [F_impl_SystemOk_eq, Option.bind_some]
  cases h1 : sysOk s with
  | false => simp
  | true =>
    rw [if_pos rfl, F_impl_StrictIn_eq, Option.bind_some]
    cases h2 : strictB s.1 ps with
    | false => simp
    | true =>
      obtain ⟨hp, ha⟩ := strictB_poly h2
      obtain ⟨_, hl, hr⟩ := sysOk_iff.1 h1
      rw [if_pos rfl]
      have : F_impl_polyRules s ps true = some (s.2.all (downB s.1 ps)) := by
        unfold F_impl_polyRules
        refine loop_all (fun i x hi hi' hm hx => ?_) (by simp [F_impl_polyRules_l1])
        obtain ⟨h3, h4, _⟩ := ruleOk_iff.1 (hr x hm)
        obtain ⟨q, e1, e2⟩ := (F_impl_compareForms_eq hp h3 h4).get
        simp only [F_impl_polyRules_l1, hi', decide_true, if_true, show (0 : Int) ≤ i by omega, and_self, Int.toNat_natCast, hx, e1, Option.bind_some, w64 (n := (i : Int) + 1) (by omega) (by omega), ← e2]
        cases q.1 <;> cases q.2 <;> simp
      rw [this]; rfl
theorem F_spec_FormOf_eq {a t : List Int} {ps : List Fm} (hs : strictB a ps = true) : F_spec_FormOf a ps t = some (if termOk a t = true then encF (fm a ps t) else ((0, []), false)) := by
  obtain ⟨hp, ha⟩ := strictB_poly hs
  unfold F_spec_FormOf
  rw [F_spec_PolysOk_eq, Option.bind_some]
  have : polysB a ps = true := by simp only [strictB, Bool.and_eq_true] at hs; exact hs.1
  rw [if_pos this, F_spec_TermOk_eq, Option.bind_some]
  by_cases h : termOk a t = true
  · rw [if_pos h, if_pos h, F_spec_l15Form_eq hp h]; rfl
  · rw [if_neg h, if_neg h]
theorem F_impl_FormOf_eq {a t : List Int} {ps : List Fm} (hs : strictB a ps = true) : F_impl_FormOf a ps t = some (if termOk a t = true then encF (fm a ps t) else ((0, []), false)) := by
  obtain ⟨hp, ha⟩ := strictB_poly hs
  unfold F_impl_FormOf
  rw [F_impl_PolysOk_eq, Option.bind_some]
  have : polysB a ps = true := by simp only [strictB, Bool.and_eq_true] at hs; exact hs.1
  rw [if_pos this, F_impl_TermOk_eq, Option.bind_some]
  by_cases h : termOk a t = true
  · rw [if_pos h, if_pos h, F_impl_formAt_eq hp h]; rfl
  · rw [if_neg h, if_neg h]
theorem F_spec_PolyLess_eq {a : List Int} {ps : List Fm} (hs : strictB a ps = true) {r : List Int × List Int} (h1 : termOk a r.1 = true) (h2 : termOk a r.2 = true) : F_spec_PolyLess a ps r.2 r.1 = some (downB a ps r) := by
  obtain ⟨hp, ha⟩ := strictB_poly hs
  obtain ⟨_, _, _, hw1⟩ := termOk_iff.1 h1
  obtain ⟨_, _, _, hw2⟩ := termOk_iff.1 h2
  unfold F_spec_PolyLess downB
  rw [F_spec_FormOf_eq hs, Option.bind_some, F_spec_FormOf_eq hs, Option.bind_some, if_pos h1, if_pos h2]
  by_cases e1 : FmOk M12 (fm a ps r.2)
  · by_cases e2 : FmOk M12 (fm a ps r.1)
    · rw [encF_ok e1, encF_ok e2, decide_eq_true e1, decide_eq_true e2]
      simp only [if_true, Bool.true_and]
      by_cases c : (fm a ps r.2).1 < (fm a ps r.1).1
      · simp only [c, decide_true, if_true, Bool.true_and]
        rw [F_spec_l15Most_eq (fm_bnd hp ha _ (Nat.le_refl _) hw2) (fm_NN hp ha _ (Nat.le_refl _) hw2) (fm_NN hp ha _ (Nat.le_refl _) hw1)]; rfl
      · simp [c]
    · rw [encF_ok e1, encF_no e2, decide_eq_true e1, decide_eq_false e2]; rfl
  · rw [encF_no e1, decide_eq_false e1]; rfl
theorem F_spec_PolyOrients_eq (s : Sys) (ps : List Fm) : F_spec_PolyOrients s ps = some (orientB s ps) := by
  unfold F_spec_PolyOrients orientB
  rw [F_spec_SystemOk_eq, Option.bind_some]
  cases h1 : sysOk s with
  | false => simp
  | true =>
    rw [if_pos rfl, F_spec_StrictIn_eq, Option.bind_some]
    cases h2 : strictB s.1 ps with
    | false => simp
    | true =>
      obtain ⟨_, hl, hr⟩ := sysOk_iff.1 h1
      rw [if_pos rfl, Bool.true_and, Bool.true_and]
      refine loop_all (fun i x hi hi' hm hx => ?_) (by simp [F_spec_PolyOrients_l1])
      obtain ⟨h3, h4, _⟩ := ruleOk_iff.1 (hr x hm)
      simp only [F_spec_PolyOrients_l1, hi', decide_true, if_true, show (0 : Int) ≤ i by omega, and_self, Int.toNat_natCast, hx, F_spec_PolyLess_eq h2 h3 h4, Option.bind_some, w64 (n := (i : Int) + 1) (by omega) (by omega)]
      cases downB s.1 ps x <;> simp
/-! ### Bounds -/
def valO (a : List Int) (ps : List Fm) (t : List Int) : Option Int := if termOk a t = true ∧ FmOk M12 (fm a ps t) then some (fm a ps t).1 else none
theorem valO_ok {a : List Int} {ps : List Fm} {t : List Int} (h1 : termOk a t = true) (h2 : FmOk M12 (fm a ps t)) : valO a ps t = some (fm a ps t).1 := if_pos ⟨h1, h2⟩
theorem valO_no {a : List Int} {ps : List Fm} {t : List Int} (h : ¬ (termOk a t = true ∧ FmOk M12 (fm a ps t))) : valO a ps t = none := if_neg h
def boundO (s : Sys) (ps : List Fm) (t : List Int) : Option Int := if orientB s ps = true then valO s.1 ps t else none
def encN (o : Option Int) : Int × Bool := match o with | some n => (n, true) | none => (0, false)
theorem orient_strict {s : Sys} {ps : List Fm} (h : orientB s ps = true) : strictB s.1 ps = true := by
  simp only [orientB, Bool.and_eq_true] at h; exact h.2.1
theorem F_impl_BoundBy_eq (s : Sys) (ps : List Fm) (t : List Int) : F_impl_BoundBy s ps t = some (encN (boundO s ps t)) := by
  unfold F_impl_BoundBy boundO
  rw [F_impl_PolyOrients_eq, Option.bind_some]
  by_cases h : orientB s ps = true
  · rw [if_pos h]
    have hs := orient_strict h
    have e : F_impl_ValueAt s.1 ps t [] = some (encN (valO s.1 ps t)) := by
      unfold F_impl_ValueAt
      rw [if_neg (by simp)]
      rw [loopC_inr (b := encN (valO s.1 ps t))]
      simp only [F_impl_ValueAt_l1, List.length_nil, Int.natCast_zero, Int.lt_irrefl, decide_false, Bool.false_eq_true, if_false, F_impl_FormOf_eq hs, Option.bind_some]
      by_cases h1 : termOk s.1 t = true
      · by_cases h2 : FmOk M12 (fm s.1 ps t)
        · rw [if_pos h1, encF_ok h2, valO_ok h1 h2]
          have h3 := h2.1
          simp only [M12] at h3
          rw [if_pos rfl, loopC_inr (b := ((fm s.1 ps t).1, true))]
          · rfl
          · simp [F_impl_ValueAt_l2, show ¬ 1000000000000 < (fm s.1 ps t).1 by omega]
        · rw [if_pos h1, encF_no h2, valO_no (fun h => h2 h.2)]; rfl
      · rw [if_neg h1, valO_no (fun h => h1 h.1)]; rfl
    rw [e, Option.bind_some, if_pos h]
  · rw [if_neg h, if_neg h]; rfl
theorem F_spec_BoundBy_eq (s : Sys) (ps : List Fm) (t : List Int) : F_spec_BoundBy s ps t = some (encN (boundO s ps t)) := by
  unfold F_spec_BoundBy boundO
  rw [F_spec_PolyOrients_eq, Option.bind_some]
  by_cases h : orientB s ps = true
  · rw [if_pos h]
    have hs := orient_strict h
    have e : F_spec_ValueAt s.1 ps t [] = some (encN (valO s.1 ps t)) := by
      unfold F_spec_ValueAt
      rw [F_spec_FormOf_eq hs, Option.bind_some]
      by_cases h1 : termOk s.1 t = true
      · by_cases h2 : FmOk M12 (fm s.1 ps t)
        · rw [if_pos h1, encF_ok h2, valO_ok h1 h2]
          have h3 := h2.1
          simp only [M12] at h3
          rw [if_pos rfl, if_neg (by simp), loopC_inr (b := ((fm s.1 ps t).1, true))]
          · rfl
          · simp only [F_spec_ValueAt_l1, List.length_nil, Int.natCast_zero, Int.lt_irrefl, decide_false, Bool.false_eq_true, if_false]
            rw [loopC_inr (b := ((fm s.1 ps t).1, true))]
            · rfl
            · have hM : ¬ 1000000000000 < (fm s.1 ps t).1 := by omega
              simp only [F_spec_ValueAt_l2, List.length_nil, Int.natCast_zero, Int.lt_irrefl, decide_false, Bool.false_eq_true, if_false, hM, Option.map_some]
              split <;> rfl
        · rw [if_pos h1, encF_no h2, valO_no (fun h => h2 h.2)]; rfl
      · rw [if_neg h1, valO_no (fun h => h1 h.1)]; rfl
    rw [e, Option.bind_some, if_pos h]
  · rw [if_neg h, if_neg h]; rfl
def slopeF : Int → List Fm → Int × Bool
  | o, [] => (o, true)
  | o, p :: ps => if p.2.any (fun c => decide (1 < c)) = true then (0, false) else slopeF (if p.1 > o then p.1 else o) ps
def slopeP (s : Sys) (ps : List Fm) : Int × Bool := if orientB s ps = true then slopeF 0 ps else (0, false)
theorem slope_loop {ps : List Fm} {f : Int × Int → Option ((Int × Int) ⊕ (Int × Bool))}
    (h : ∀ (o : Int) (i : Nat) (p : Fm), i < ps.length → (i : Int) < ps.length → p ∈ ps → ps.getD i default = p → f (o, i) = some (if p.2.any (fun c => decide (1 < c)) = true then .inr (0, false) else .inl (if p.1 > o then p.1 else o, (i : Int) + 1)))
    (he : ∀ o, f (o, ps.length) = some (.inr (o, true))) : loopC f (0, 0) = some (slopeF 0 ps) := by
  have key : ∀ (k i : Nat) (o : Int), i + k = ps.length → loopC f (o, (i : Int)) = some (slopeF o (ps.drop i)) := by
    intro k
    induction k with
    | zero =>
      intro i o hi
      obtain rfl : i = ps.length := by omega
      rw [loopC_inr (he o)]; simp [slopeF]
    | succ k ih =>
      intro i o hi
      have hlt : i < ps.length := by omega
      have e := h o i _ hlt (by omega) (List.getElem_mem hlt) (getD_get hlt)
      rw [List.drop_eq_getElem_cons hlt, slopeF]
      by_cases hs : (ps[i]).2.any (fun c => decide (1 < c)) = true
      · rw [if_pos hs] at e
        rw [loopC_inr e, if_pos hs]
      · rw [if_neg hs] at e
        rw [loopC_inl e, if_neg hs, show ((i : Int) + 1) = ((i + 1 : Nat) : Int) by omega, ih (i + 1) _ (by omega)]
  simpa using key ps.length 0 0 (by omega)
theorem F_impl_SlopeOf_eq (s : Sys) (ps : List Fm) : F_impl_SlopeOf s ps = some (slopeP s ps) := by
  unfold F_impl_SlopeOf slopeP
  rw [F_impl_PolyOrients_eq, Option.bind_some]
  by_cases h : orientB s ps = true
  · rw [if_pos h, if_pos h]
    have hpo : polysB s.1 ps = true := by have := orient_strict h; simp only [strictB, Bool.and_eq_true] at this; exact this.1
    obtain ⟨h1, h2⟩ := polys_small hpo
    refine slope_loop (fun o i p hi hi' hm hx => ?_) (fun o => by simp [F_impl_SlopeOf_l1])
    have hpl := (h2 p hm).1
    simp only [F_impl_SlopeOf_l1, hi', decide_true, if_true, show (0 : Int) ≤ i by omega, and_self, Int.toNat_natCast, hx, w64 (n := (i : Int) + 1) (by omega) (by omega)]
    by_cases h0 : 0 < p.2.length
    · rw [if_pos (by simpa using h0)]
      obtain ⟨m, e1, e2⟩ := (F_slices_Max_ok h0 (by show p.2.length < _; omega)).get
      rw [e1, Option.bind_some]
      by_cases hm1 : 1 < m
      · have : p.2.any (fun c => decide (1 < c)) = true := by
          rw [List.any_eq_true]
          have := mt (e2 1).2 (by omega)
          simp only [Classical.not_forall] at this
          obtain ⟨y, hy, h3⟩ := this
          exact ⟨y, hy, by simp; omega⟩
        rw [if_pos (by simpa using hm1), if_pos this]; rfl
      · have : ¬ p.2.any (fun c => decide (1 < c)) = true := by
          rw [List.any_eq_true]
          rintro ⟨y, hy, h3⟩
          have := (e2 1).1 (by omega) y hy
          simp at h3; omega
        rw [if_neg (by simpa using hm1), if_neg this]
    · have : p.2 = [] := List.length_eq_zero_iff.1 (by omega)
      rw [if_neg (by simpa using h0), this]
      simp
  · rw [if_neg h, if_neg h]
theorem F_spec_SlopeOf_eq (s : Sys) (ps : List Fm) : F_spec_SlopeOf s ps = some (slopeP s ps) := by
  unfold F_spec_SlopeOf slopeP
  rw [F_spec_PolyOrients_eq, Option.bind_some]
  by_cases h : orientB s ps = true
  · rw [if_pos h, if_pos h]
    have hpo : polysB s.1 ps = true := by have := orient_strict h; simp only [strictB, Bool.and_eq_true] at this; exact this.1
    obtain ⟨h1, h2⟩ := polys_small hpo
    refine slope_loop (fun o i p hi hi' hm hx => ?_) (fun o => by simp [F_spec_SlopeOf_l1])
    have hpl := (h2 p hm).1
    simp only [F_spec_SlopeOf_l1, hi', decide_true, if_true]
    have e := loop_any (xs := p.2) (p := fun c => decide (1 < c)) (f := F_spec_SlopeOf_l2 ps o i) (y := Sum.inr (0, false)) (n := Sum.inl (if p.1 > o then p.1 else o, (i : Int) + 1)) (fun v c hv hv' _ hc => by
      simp only [F_spec_SlopeOf_l2, Int.toNat_natCast, hi', show (0 : Int) ≤ i by omega, and_self, if_true, hx, hv', decide_true, show (0 : Int) ≤ v by omega, hc, w64 (n := (v : Int) + 1) (by omega) (by omega)]
      by_cases c1 : 1 < c <;> simp [c1]) (by
      simp only [F_spec_SlopeOf_l2, Int.toNat_natCast, hi', show (0 : Int) ≤ i by omega, and_self, if_true, hx, Int.lt_irrefl, decide_false, Bool.false_eq_true, if_false, w64 (n := (i : Int) + 1) (by omega) (by omega), F_spec_l1Max]
      by_cases c1 : p.1 < o
      · simp [c1, show ¬ o < p.1 by omega]
      · by_cases c2 : o < p.1
        · simp [c1, c2]
        · simp [c1, c2]; omega)
    rw [e]
  · rw [if_neg h, if_neg h]
def bwB (s : Sys) (ps : List Fm) (w : List Int × List Stp) : Bool := walkB s w && match boundO s ps w.1 with | some n => decide ((w.2.length : Int) ≤ n) | none => false
theorem F_impl_BoundedWalk_eq (s : Sys) (ps : List Fm) (w : List Int × List Stp) : F_impl_BoundedWalk s ps w = some (bwB s ps w) := by
  unfold F_impl_BoundedWalk bwB
  rw [F_impl_WalkOk_eq, Option.bind_some]
  cases walkB s w with
  | false => rfl
  | true =>
    rw [if_pos rfl, F_impl_BoundBy_eq, Option.bind_some]
    cases boundO s ps w.1 <;> rfl
theorem F_spec_BoundedWalk_eq (s : Sys) (ps : List Fm) (w : List Int × List Stp) : F_spec_BoundedWalk s ps w = some (bwB s ps w) := by
  unfold F_spec_BoundedWalk bwB
  rw [F_spec_WalkOk_eq, Option.bind_some]
  cases walkB s w with
  | false => rfl
  | true =>
    rw [if_pos rfl, F_spec_BoundBy_eq, Option.bind_some]
    cases boundO s ps w.1 <;> rfl
end Go.Proofs.YtcaljngigbfadaaGreat
