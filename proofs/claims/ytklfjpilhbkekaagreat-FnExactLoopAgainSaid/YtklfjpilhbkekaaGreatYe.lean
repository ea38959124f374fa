/- The layer, last part: what is absorbed, lent and made public; nothing is assumed. -/
import Derived.Test.YtklfjpilhbkekaaGreatYshal
import Derived.Test.YtklfjpilhbkekaaGreatYb
set_option linter.unusedSimpArgs false
set_option linter.unusedVariables false
set_option linter.unusedSectionVars false
set_option linter.unnecessarySimpa false
namespace Abx
open Go
theorem Weak.absorbA {k : Nat} {env : List AV} {s : Sto} (id id' q : Nat) {pre0 L : List AV} {t e n e' : Nat} {xs' : List D} (hs : sat s id = .nst t e n (pre0 ++ L)) (hq : L[q]? = some (.own e' id' xs'))
    (hk : k ≤ id') (hne : id ≠ id') (hw : Whole s id' e' xs') :
    Weak k env s (AV.rens (killρ id') env) (sset (skill id' s) id (.nst t e n (AV.rens (killρ id') pre0 ++ (AV.rens (killρ id') L).set q (.dp (.sl e' none xs'))))) := by
  obtain ⟨h1, h2, h3⟩ := set_split (y := AV.dp (.sl e' none xs')) hq
  have h4 : (AV.rens (killρ id') L).set q (.dp (.sl e' none xs')) = AV.rens (killρ id') (L.take q) ++ .dp (.sl e' none xs') :: AV.rens (killρ id') (L.drop (q + 1)) := by
    have e1 := congrArg (AV.rens (killρ id')) h2
    rw [rens_set', rens_append'] at e1
    simpa [AV.rens, AV.ren] using e1
  have := Weak.absorb (env := env) id id' (pre0 ++ L.take q) (L.drop (q + 1)) hs (by conv => lhs; rw [h1]
                                                                                     rw [List.append_assoc]) hk hne hw
  rw [rens_append', List.append_assoc, ← h4] at this
  exact this
attribute [go_sem] List.set_cons_zero List.set_cons_succ
def TW (nid : Nat) (x y : AV) : Prop := ∀ (β : Beta) (O : Own) (w : World) (v : Value), (β nid).at (.slice none 0 0) 0 → AV.ok β O w x v → AV.ok β O w y v
def TWs (nid : Nat) (xs ys : List AV) : Prop := ∀ (β : Beta) (O : Own) (w : World) (vs : List Value), (β nid).at (.slice none 0 0) 0 → AV.oks β O w xs vs → AV.oks β O w ys vs
theorem TW.refl {nid : Nat} {x : AV} : TW nid x x := fun _ _ _ _ _ h => h
theorem TWs.nil {nid : Nat} : TWs nid [] [] := fun _ _ _ _ _ h => h
theorem TWs.cons {nid : Nat} {x y : AV} {xs ys : List AV} (h : TW nid x y) (hs : TWs nid xs ys) : TWs nid (x :: xs) (y :: ys) := fun β O w vs hb hv => by
  simp only [AV.oks] at hv ⊢
  obtain ⟨v, r, h1, h2, h3⟩ := hv
  exact ⟨v, r, h1, h β O w v hb h2, hs β O w r hb h3⟩
theorem TW.nil {nid e e0 : Nat} : TW nid (.d (.sl e0 (some true) [])) (.own e nid []) := fun β O w v hb hv => by
  simp only [AV.ok] at hv ⊢
  have := nil_ok hv
  subst this
  simp only [D.ok]
  exact ⟨⟨none, 0, rfl, ⟨Nat.le_refl _, by omega⟩, trivial, .inl trivial⟩, _, 0, hb, Nat.le_refl _, fun _ => rfl⟩
theorem TW.tup {nid : Nat} {xs ys : List AV} (h : TWs nid xs ys) : TW nid (.tup xs) (.tup ys) := fun β O w v hb hv => by
  simp only [AV.ok] at hv ⊢
  obtain ⟨vs, h1, h2⟩ := hv
  exact ⟨vs, h1, h β O w _ hb h2⟩
theorem TW.agg {nid : Nat} {xs ys : List AV} (h : TWs nid xs ys) : TW nid (.agg xs) (.agg ys) := fun β O w v hb hv => by
  simp only [AV.ok] at hv ⊢
  obtain ⟨vs, h1, h0, h2⟩ := hv
  exact ⟨vs, h1, h0, h β O w _ hb h2⟩
theorem TW.aggD {nid : Nat} {ds : List D} {ys : List AV} (h : TWs nid (ds.map .d) ys) : TW nid (.d (.agg ds)) (.agg ys) := fun β O w v hb hv => by
  have hm : ∀ (ds : List D) (vs : List Value), D.oks O w ds vs → AV.oks β O w (ds.map .d) vs := fun ds => by
    induction ds with
    | nil => intro vs h; simpa [D.oks, AV.oks] using h
    | cons d ds ih =>
      intro vs h
      simp only [D.oks] at h
      obtain ⟨v, r, h1, _, h2, h3⟩ := h
      simp only [List.map_cons, AV.oks]
      exact ⟨v, r, h1, by simpa only [AV.ok] using h2, ih r h3⟩
  simp only [AV.ok, D.ok] at hv ⊢
  obtain ⟨vs, h1, h2⟩ := hv
  exact ⟨vs, h1, doks_ones h2, h β O w _ hb (hm _ _ h2)⟩
theorem Done.thawT {k : Nat} {x : AV} {s : Sto} (nid t e : Nat) (y : AV) (hd : sat s nid = .dead) (hxy : TW nid x y) : Done k x s y (sset s nid (.tok t e 0)) := fun C β w v _ hi hx => by
  obtain ⟨h1, m⟩ := St.tokNil (env := []) (a := { tmps := #[], defers := [] }) (t := t) (e := e) ⟨.nil, hi, rfl, fun i x hx => by simp at hx⟩ hd
  exact ⟨_, h1.inv, hxy _ _ _ _ (by simp [bset, Place.at, nilV0]) (m.ok hx)⟩
theorem Done.thawD {k : Nat} {x : AV} {s : Sto} (nid t e : Nat) (y : AV) (hd : sat s nid = .dead) (hxy : TW nid x y) : Done k x s y (sset s nid (.nst t e 0 [])) := fun C β w v _ hi hx => by
  obtain ⟨β', h1, h2, h3⟩ := St.thawN (env := []) (a := { tmps := #[], defers := [] }) ⟨.nil, hi, rfl, fun i x hx => by simp at hx⟩ t e hd
  refine ⟨β', h1.inv, hxy _ _ _ _ ?_ (h2 x v hx)⟩
  simp only [AV.ok] at h3
  obtain ⟨_, u, n, h4, h5, h6⟩ := h3
  have hob := h1.inv.obs nid
  rw [sat_sset, if_pos rfl] at hob
  obtain ⟨u', bs, k1, _⟩ := hob
  rw [k1] at h4 ⊢
  obtain ⟨rfl, rfl⟩ := h4
  rw [h6 rfl]
  exact ⟨rfl, rfl⟩
theorem Done.absorbA {k : Nat} {x : AV} {s : Sto} (id id' q : Nat) {pre0 L : List AV} {t e n e' : Nat} {xs' : List D} (hs : sat s id = .nst t e n (pre0 ++ L)) (hq : L[q]? = some (.own e' id' xs'))
    (hk : k ≤ id') (hne : id ≠ id') (hw : Whole s id' e' xs') :
    Done k x s (x.ren (killρ id')) (sset (skill id' s) id (.nst t e n (AV.rens (killρ id') pre0 ++ (AV.rens (killρ id') L).set q (.dp (.sl e' none xs'))))) :=
  Done.of_weak (by have := Weak.absorbA (env := [x]) id id' q hs hq hk hne hw; simpa only [AV.rens] using this)
theorem Done.nstE {k : Nat} {x : AV} {s : Sto} (id : Nat) {t e n : Nat} {cs : List AV} (cs' : List AV) (hs : sat s id = .nst t e n cs) (h : cs = cs') : Done k x s x (sset s id (.nst t e n cs')) :=
  Done.of_weak (Weak.nstE id cs' hs h)
theorem noDp_nil : noDp [] = true := (rfl)
theorem noDp_d {x : D} {xs : List AV} : noDp (.d x :: xs) = noDp xs := (rfl)
theorem noDp_own {e id : Nat} {ds : List D} {xs : List AV} : noDp (.own e id ds :: xs) = noDp xs := (rfl)
theorem noDp_gow {e id n : Nat} {xs : List AV} : noDp (.gow e id n :: xs) = noDp xs := (rfl)
attribute [go_sem] noDp_nil noDp_d noDp_own noDp_gow
theorem NsLe_refl_t {xs : List AV} : NsLe xs xs ↔ True := ⟨fun _ => trivial, fun _ => NsLe.refl xs⟩
attribute [go_sem] NsLe_refl_t ne_eq not_false_eq_true
theorem rens_take {ρ : Nat → Option Nat} {xs : List AV} {n : Nat} : AV.rens ρ (xs.take n) = (AV.rens ρ xs).take n := by simp only [rens_mapB, List.map_take]
theorem rens_drop {ρ : Nat → Option Nat} {xs : List AV} {n : Nat} : AV.rens ρ (xs.drop n) = (AV.rens ρ xs).drop n := by simp only [rens_mapB, List.map_drop]
attribute [go_sem] rens_take rens_drop
theorem Inv.prv_len {C : Ctx} {β : Beta} {s : Sto} {w : World} (h : Inv C β s w) {id e n : Nat} {xs : List D} (hs : sat s id = .prv e n (tolds xs)) (he : ∀ x ∈ xs, (dcells x).length = e) (h0 : 0 < e) : n = xs.length := by
  have ho := h.obs id
  rw [hs] at ho
  obtain ⟨u, bs, _, _, hl, _⟩ := ho
  rw [tolds_len he] at hl
  exact (Nat.eq_of_mul_eq_mul_right h0 hl).symm
section
variable {α γ : Type} [Inhabited α] {f : α → D} {f' : γ → D} {e e' n k0 : Nat} {s : Sto} {env : List AV} {xs : List α} {y y' : α} {ys : List γ} {i k : Nat}
theorem set_self (hi : i < xs.length) : xs.set i (xs.getD i default) = xs := by
  rw [List.getD_eq_getElem?_getD, List.getElem?_eq_getElem hi]
  exact List.set_getElem_self hi
theorem getD_set_self (hi : i < xs.length) : (xs.set i y).getD i default = y := by
  rw [List.getD_eq_getElem?_getD, List.getElem?_set_self hi]; rfl
theorem told_at2 [Cel f e] (hi : i < xs.length) (hk : k < e) : (tolds ((xs.set i y).map f))[i * e + k]? = some (toldC ((dcells (f y)).getD k .any)) := by
  have := told_at (f := f) (e := e) (xs := xs.set i y) (i := i) (k := k) (by simpa using hi) hk
  rwa [getD_set_self hi] at this
theorem told_setc2 [Cel f e] {d : D} (hi : i < xs.length) (hk : k < e) (h : (dcells (f y)).set k d = dcells (f y')) :
    (tolds ((xs.set i y).map f)).set (i * e + k) (toldC d) = tolds ((xs.set i y').map f) := by
  rw [told_setc (xs := xs.set i y) (y := y') (by simpa using hi) hk (by rw [getD_set_self hi]; exact h), List.set_set]
theorem told_seg2 [Cel f e] {d : D} {x : AV} {m m' : Nat} (hi : i < xs.length) (hk : k < e) (hm : m = i * e + k) (hm' : m' = m + 1) (hx : x = toldC d) (h : (dcells (f y)).set k d = dcells (f y')) :
    (tolds ((xs.set i y).map f)).take m ++ [x] ++ (tolds ((xs.set i y).map f)).drop m' = tolds ((xs.set i y').map f) := by
  subst hm; subst hm'; subst hx
  rw [seg1_set (by rw [told_len, List.length_set]; exact idx_lt hi hk), told_setc2 hi hk h]
theorem told_segE [Cel f e] {L : List AV} {m m' : Nat} (hi : i < xs.length) (hm : m = i * e) (hm' : m' = i * e + e) (hL : L = (dcells (f y)).map toldC) :
    (tolds (xs.map f)).take m ++ L ++ (tolds (xs.map f)).drop m' = tolds ((xs.set i y).map f) := by
  subst hm; subst hm'; subst hL
  have h1 := groL_take Cel.len xs i 0 hi (Nat.zero_le e) (f := f)
  have h2 := groL_drop Cel.len xs i e hi (Nat.le_refl e) (f := f)
  rw [tolds_L, tolds_L, ← List.map_take, ← List.map_drop, h2]
  rw [Nat.add_zero] at h1
  rw [h1, List.take_zero, List.append_nil, List.drop_of_length_le (by rw [Cel.len]; exact Nat.le_refl _), List.nil_append, List.set_eq_take_append_cons_drop, if_pos hi, groL_append, groL_cons]
  simp only [List.map_append, List.append_assoc]
theorem set_getD2 [Cel f e] {x : AV} (hi : i < xs.length) (hk : k < e) : ((tolds ((xs.set i y).map f)).set (i * e + k) x).getD (i * e + k) .junk = x := by
  rw [List.getD_eq_getElem?_getD, List.getElem?_set, if_pos rfl, if_pos (by rw [told_len, List.length_set]; exact idx_lt hi hk)]; rfl
theorem set_getD20 [Cel f e] {x : AV} (hi : i < xs.length) (hk : 0 < e) : ((tolds ((xs.set i y).map f)).set (i * e) x).getD (i * e) .junk = x := set_getD2 (k := 0) hi hk
theorem Weak.extC [Cel f e] [Cel f' e'] [Cl f'] (id c i k : Nat) {m : Nat} (hs : sat s id = .prv e n (tolds ((xs.set i y).map f))) (hi : i < xs.length) (hk : k < e) (hm : m = i * e + k) (hy : (dcells (f y)).getD k .any = slD e' f' ys)
    (hd : sat s c = .dead) (hc : k0 ≤ c) :
    Weak k0 env s env (sset (sset s c (.prv e' ys.length (tolds (ys.map f')))) id (.prv e n ((tolds ((xs.set i y).map f)).set m (.gow e' c ys.length)))) := by
  subst hm
  have h1 := told_at2 (f := f) (e := e) (xs := xs) (y := y) hi hk
  rw [hy] at h1
  have := Weak.extract (env := env) (k := k0) id c (i * e + k) hs h1 hd hc told_cond.1 told_cond.2
  simpa only [List.length_map] using this
theorem Weak.absC [Cel f e] [Cel f' e'] [Cl f'] (id c i k : Nat) {m q q' : Nat} (hs : sat s id = .prv e n ((tolds ((xs.set i y).map f)).set m (.gow e' c q))) (hcs : sat s c = .prv e' q' (tolds (ys.map f'))) (hq : q = q')
    (hi : i < xs.length) (hk : k < e) (hm : m = i * e + k) (h0 : 0 < e') (h : (dcells (f y)).set k (slD e' f' ys) = dcells (f y')) (hc : k0 ≤ c) (hne : id ≠ c) :
    Weak k0 env s (AV.rens (killρ c) env) (sset (sdel c s) id (.prv e n (tolds ((xs.set i y').map f)))) := fun C β a w hC hst => by
  subst hC; subst hm; subst hq
  have hlen := hst.inv.prv_len hcs told_cond.1 h0
  rw [List.length_map] at hlen
  subst hlen
  have hj : ((tolds ((xs.set i y).map f)).set (i * e + k) (.gow e' c ys.length))[i * e + k]? = some (.gow e' c (ys.map f').length) := by
    rw [List.getElem?_set, if_pos rfl, if_pos (by rw [told_len, List.length_set]; exact idx_lt hi hk), List.length_map]
  obtain ⟨β', h2⟩ := hst.absorbP hne hc hs hj (WholeP.of hcs rfl)
  have hcs' : (AV.rens (killρ c) ((tolds ((xs.set i y).map f)).set (i * e + k) (.gow e' c ys.length))).set (i * e + k) (.dp (.sl e' none (ys.map f'))) = tolds ((xs.set i y').map f) := by
    rw [rens_set', rens_tolds, List.set_set]
    exact told_setc2 hi hk h
  rw [hcs'] at h2
  have hsat : ∀ q, sat (sset (sdel c s) id (.prv e n (tolds ((xs.set i y').map f)))) q = sat (sset (skill c s) id (.prv e n (tolds ((xs.set i y').map f)))) q := fun q => by
    rw [sat_sset, sat_sset, sat_sdel]
  obtain ⟨g1, g2⟩ := h2.inv.told (s' := sset (sdel c s) id (.prv e n (tolds ((xs.set i y').map f)))) fun q => by rw [hsat]; exact ObLe.refl _
  exact ⟨β', h2.defers, g1, h2.len, fun j x hx => by rw [g2]; exact h2.env j x hx⟩
theorem Weak.absSeg [Cel f' e'] [Cl f'] (id c q : Nat) {A L B : List AV} {m m' : Nat} (hs : sat s id = .prv e n (A ++ L ++ B)) (hq : L[q]? = some (.gow e' c m)) (hcs : sat s c = .prv e' m' (tolds (ys.map f'))) (hm : m = m') (h0 : 0 < e')
    (hc : k0 ≤ c) (hne : id ≠ c) :
    Weak k0 env s (AV.rens (killρ c) env) (sset (skill c s) id (.prv e n (AV.rens (killρ c) A ++ (AV.rens (killρ c) L).set q (.dp (slD e' f' ys)) ++ AV.rens (killρ c) B))) := fun C β a w hC hst => by
  subst hC; subst hm
  have hlen := hst.inv.prv_len hcs told_cond.1 h0
  rw [List.length_map] at hlen
  subst hlen
  have hqL : q < L.length := (List.getElem?_eq_some_iff.1 hq).1
  have hj : (A ++ L ++ B)[A.length + q]? = some (.gow e' c (ys.map f').length) := by
    rw [List.append_assoc, List.getElem?_append_right (by omega), Nat.add_sub_cancel_left, List.getElem?_append_left hqL, hq, List.length_map]
  obtain ⟨β', h2⟩ := hst.absorbP hne hc hs hj (WholeP.of hcs rfl)
  refine ⟨β', ?_⟩
  have : (AV.rens (killρ c) (A ++ L ++ B)).set (A.length + q) (.dp (.sl e' none (ys.map f'))) = AV.rens (killρ c) A ++ (AV.rens (killρ c) L).set q (.dp (slD e' f' ys)) ++ AV.rens (killρ c) B := by
    rw [rens_append', rens_append', List.append_assoc, List.append_assoc, List.set_append, if_neg (by rw [rens_length]; omega), rens_length, Nat.add_sub_cancel_left, List.set_append, if_pos (by rw [rens_length]; exact hqL)]
    rfl
  rw [this] at h2
  exact h2
end
attribute [go_sem] set_getD2 set_getD20 told_len
theorem Weak.prvZ {α : Type} {f : α → D} {e n m k0 id : Nat} {s : Sto} {env : List AV} {z : List AV} (x0 : α) (hs : sat s id = .prv e n ((List.replicate m z).flatten)) (h : NsLe z ((dcells (f x0)).map toldC)) :
    Weak k0 env s env (sset s id (.prv e n (tolds ((List.replicate m x0).map f)))) :=
  Weak.prvLe id _ hs (by rw [List.map_replicate]; exact NsLe.rep h m)
end Abx
namespace Go.Proofs.YtklfjpilhbkekaaGreat
open Go Abx
attribute [local irreducible] vcm vgo vdr vrun vdrun MWp GhostQ BrC BrO BrG BrD BrH AmbO callR callD drQ EnvLe StoLe
set_option maxHeartbeats 4000000
instance : Cl D_impl_Rule := Cl.agg _ (fun _ => rfl) (fun _ => rfl)
instance : Cl D_impl_Node := Cl.agg _ (fun _ => rfl) (fun _ => rfl)
instance : Cl D_impl_Move := Cl.agg _ (fun _ => rfl) (fun _ => rfl)
instance : Cl D_impl_Chain := Cl.agg _ (fun _ => rfl) (fun _ => rfl)
noncomputable def F_slices_Clone_int64_int64_s1 (s : (List Int)) : Option (List Int) :=
 ambO s (
  some []) (
  if (0 + s.length) * 8 ≤ 140737488355328 then
   some s
  else none)
instance c_slices_Clone_int64_int64_s1 {s : (List Int)} : HasC (F_slices_Clone_int64_int64_s1 s) fun rr => ACalls Tryz.prog 121 [.d (slD 1 iD s)] [] 0 fun xx ss => xx = .own 1 900000 (List.map iD rr) ∧ ss = [(900000, .tok 2 1 rr.length)] := ⟨@fun rr h => by
  delta F_slices_Clone_int64_int64_s1 at h
  refine fn121.callsD (vcm_sound ?_)
  delta mc121
  refine stp ?_
  have h1 := amb_some h
  refine AmbO.of (fun he => ?_) ?_
  · replace h := h1.1 (by simpa using he)
    clear h1
    refine stp ?_
    cases h
    exact Done.trans ((Done.thawT 900000 2 1 (.own 1 900000 (List.map iD [])) (by first | rfl | simp [sat]) (by repeat' (first | exact TW.nil | refine TW.tup ?_ | refine TW.aggD ?_ | refine TW.agg ?_ | refine TWs.cons ?_ ?_ | exact TWs.nil | exact TW.refl)))) (Done.told frd don)
  · replace h := h1.2
    clear h1
    refine stp ?_
    refine ndI h fun hp h => ?_
    cases h
    exact Done.trans ((Done.move 5 900000 (ob := .tok 2 1 s.length) (by omega) (by omega) (by omega) rfl (by first | rfl | (simp; done) | (simp [sat, smove, sset, skill, sdel, sdels, Ob.ren, Ob.kill, rens_tolds]; done)))) (Done.told frd don)⟩
end Go.Proofs.YtklfjpilhbkekaaGreat
namespace Abx
open Go
theorem ACalls.eq {P : Program} {f : Nat} {args : List AV} {s : Sto} {k : Nat} {y y' : AV} {t t' : Sto} (h : ACalls P f args s k fun x s' => x = y ∧ s' = t) (hy : y = y') (ht : t = t') :
    ACalls P f args s k fun x s' => x = y' ∧ s' = t' := by subst hy; subst ht; exact h
mutual
inductive Pub (tl : List (Nat × Nat × List D)) : AV → D → Prop
  | lit {u : Value} : Pub tl (.d (.lit u)) (.lit u)
  | gow {e id n : Nat} {ds : List D} (h : WholeP (toks tl) id e ds) (hn : n = ds.length) : Pub tl (.gow e id n) (.sl e none ds)
  | agg {xs : List AV} {ds : List D} (h : Pubs tl xs ds) : Pub tl (.agg xs) (.agg ds)
inductive Pubs (tl : List (Nat × Nat × List D)) : List AV → List D → Prop
  | nil : Pubs tl [] []
  | cons {x : AV} {a : D} {xs : List AV} {ds : List D} (h : Pub tl x a) (hs : Pubs tl xs ds) : Pubs tl (x :: xs) (a :: ds)
end
mutual
theorem Pub.ok {C : Ctx} {β β2 : Beta} {tl : List (Nat × Nat × List D)} {w : World} (h : Inv C β (toks tl) w) : ∀ {x : AV} {a : D} {v : Value}, Pub tl x a → AV.ok β (C.forb β (toks tl)) w x v → D.ok C.O w a v
  | _, _, v, .lit, hv => by simp only [AV.ok, D.ok] at hv ⊢; exact hv
  | _, _, v, .gow hw hn, hv => lent_tok h hw hn hv
  | _, _, v, .agg hl, hv => by
    simp only [AV.ok] at hv
    obtain ⟨vs, rfl, h1, h2⟩ := hv
    simp only [D.ok]
    exact ⟨vs, rfl, Pubs.oks (β2 := β2) h hl h1 h2⟩
theorem Pubs.oks {C : Ctx} {β β2 : Beta} {tl : List (Nat × Nat × List D)} {w : World} (h : Inv C β (toks tl) w) : ∀ {xs : List AV} {ds : List D} {vs : List Value}, Pubs tl xs ds → (∀ u ∈ vs, one u = true) → AV.oks β (C.forb β (toks tl)) w xs vs → D.oks C.O w ds vs
  | _, _, vs, .nil, _, hv => by simpa [AV.oks, D.oks] using hv
  | _, _, vs, .cons hl hs, h1, hv => by
    simp only [AV.oks] at hv
    obtain ⟨v, r, rfl, h2, h3⟩ := hv
    simp only [D.oks]
    exact ⟨v, r, rfl, h1 v (by simp), Pub.ok (β2 := β2) h hl h2, Pubs.oks (β2 := β2) h hs (fun u hu => h1 u (by simp [hu])) h3⟩
end
theorem ACalls.pub {P : Program} {f : Nat} {dz : List D} {y : AV} {t : Sto} {tl : List (Nat × Nat × List D)} {r : D} (hc : ACalls P f (dz.map .d) [] 0 fun x s' => x = y ∧ s' = t) (ht : t = toks tl) (hp : Pub tl y r) : PFun P f dz r := fun C vs hs hk hinv hargs => by
  subst ht
  refine (hc C vs hs hk hinv hargs).mono ?_
  rintro e w' ⟨v, x, β', s', rfl, hi, hx, rfl, rfl⟩
  refine ⟨v, .d r, fun _ => .no, [], rfl, ⟨hi.size, hi.io, hi.keep, hi.blks, fun b o ⟨id, h⟩ => h.elim, fun id b h => h.elim, fun id hid => by omega, hi.low, fun id => rfl, fun i j b h => h.elim⟩, ?_, rfl⟩
  have h1 := Pub.ok (β2 := β') hi hp hx
  simp only [AV.ok]
  exact D.ok_mono (fun b o v hc hn => ⟨hc, fun h => hn (h.elim (fun h => h) fun ⟨_, h⟩ => h.elim)⟩) r v h1
theorem Pub.tok {α : Type} {f : α → D} {e n id : Nat} {xs : List α} {tl : List (Nat × Nat × List D)} [Cel f e] [Cl f] (h : sat (toks tl) id = .prv e n (tolds (xs.map f))) (hn : n = xs.length) : Pub tl (.gow e id n) (slD e f xs) :=
  .gow (WholeP.of h hn) (by rw [hn, List.length_map])
theorem told_flat {α : Type} {f : α → D} [LitF f] : ∀ xs : List α, List.map (aD f) xs = tolds (xs.map f)
  | [] => rfl
  | x :: xs => by
    rw [List.map_cons, List.map_cons, tolds_cons, told_flat xs]
    have := LitF.lit (f := f) x
    cases h : f x with
    | lit u => simp only [dcells, List.map_cons, List.map_nil, toldC, aD, h]; rfl
    | _ => rw [h] at this; cases this
theorem set_getD21 {α : Type} [Inhabited α] {f : α → D} [Cel f 1] {xs : List α} {y : α} {i : Nat} {x : AV} (hi : i < xs.length) : ((tolds ((xs.set i y).map f)).set i x).getD i .junk = x := by
  have := set_getD2 (f := f) (e := 1) (k := 0) (xs := xs) (y := y) (x := x) hi (by decide)
  simpa using this
attribute [go_sem] set_getD21
theorem sat_hit {i : Nat} {o : Ob} {s : Sto} : sat ((i, o) :: s) i = o := by simp [sat]
theorem sat_miss {i j : Nat} {o : Ob} {s : Sto} (h : j ≠ i) : sat ((i, o) :: s) j = sat s j := by simp [sat, h]
theorem sat_nil {j : Nat} : sat [] j = .dead := rfl
theorem sset_hit {i : Nat} {o x : Ob} {s : Sto} : sset ((i, o) :: s) i x = (i, x) :: s := by simp [sset]
theorem sset_lt {i j : Nat} {o x : Ob} {s : Sto} (h : i < j) : sset ((j, o) :: s) i x = (i, x) :: (j, o) :: s := by simp [sset, h, Nat.ne_of_lt h]
theorem sset_gt {i j : Nat} {o x : Ob} {s : Sto} (h : j < i) : sset ((j, o) :: s) i x = (j, o) :: sset s i x := by simp [sset, Nat.ne_of_gt h, Nat.not_lt_of_gt h]
theorem sset_nil {i : Nat} {x : Ob} : sset [] i x = [(i, x)] := rfl
attribute [go_sem] sat_hit sat_miss sat_nil sset_hit sset_lt sset_gt sset_nil
end Abx
namespace Abx
open Go
end Abx
