/- The layer, last part: what is absorbed, lent and made public; the program's proof as a private token; nothing is assumed. -/
import Derived.Test.YtklfjpilhbkekaaGreatXshal
import Derived.Test.YtklfjpilhbkekaaGreatXc
set_option linter.unusedSimpArgs false
set_option linter.unusedVariables false
set_option linter.unusedSectionVars false
set_option linter.unnecessarySimpa false
namespace Abx
open Go
theorem Weak.absorbA {k : Nat} {env : List AV} {s : Sto} (id id' q : Nat) {pre0 L : List AV} {t e n e' : Nat} {xs' : List D} (hs : sat s id = .nst t e n (pre0 ++ L)) (hq : L[q]? = some (.own e' id' xs'))
    (hk : k ≤ id') (hne : id ≠ id') (hw : Whole s id' e' xs') :
    Weak k env s (AV.rens (killρ id') env) (sset (skill id' s) id (.nst t e n (AV.rens (killρ id') pre0 ++ (AV.rens (killρ id') L).set q (.dp (.sl e' none xs'))))) := by
  obtain ⟨h1, h2, h3⟩ := set_split (y := AV.dp (.sl e' none xs')) hq
  have h4 : (AV.rens (killρ id') L).set q (.dp (.sl e' none xs')) = AV.rens (killρ id') (L.take q) ++ .dp (.sl e' none xs') :: AV.rens (killρ id') (L.drop (q + 1)) := by
    have e1 := congrArg (AV.rens (killρ id')) h2
    rw [rens_set', rens_append'] at e1
    simpa [AV.rens, AV.ren] using e1
  have := Weak.absorb (env := env) id id' (pre0 ++ L.take q) (L.drop (q + 1)) hs (by conv => lhs; rw [h1]
                                                                                     rw [List.append_assoc]) hk hne hw
  rw [rens_append', List.append_assoc, ← h4] at this
  exact this
theorem Weak.absorbL {k : Nat} {env : List AV} {s : Sto} (id id' q : Nat) {L : List AV} {t e n e' : Nat} {xs' : List D} (hs : sat s id = .nst t e n L) (hq : L[q]? = some (.own e' id' xs'))
    (hk : k ≤ id') (hne : id ≠ id') (hw : Whole s id' e' xs') :
    Weak k env s (AV.rens (killρ id') env) (sset (skill id' s) id (.nst t e n ((AV.rens (killρ id') L).set q (.dp (.sl e' none xs'))))) :=
  Weak.absorbA (pre0 := []) id id' q hs hq hk hne hw
attribute [go_sem] List.set_cons_zero List.set_cons_succ
def TW (nid : Nat) (x y : AV) : Prop := ∀ (β : Beta) (O : Own) (w : World) (v : Value), (β nid).at (.slice none 0 0) 0 → AV.ok β O w x v → AV.ok β O w y v
def TWs (nid : Nat) (xs ys : List AV) : Prop := ∀ (β : Beta) (O : Own) (w : World) (vs : List Value), (β nid).at (.slice none 0 0) 0 → AV.oks β O w xs vs → AV.oks β O w ys vs
theorem TW.refl {nid : Nat} {x : AV} : TW nid x x := fun _ _ _ _ _ h => h
theorem TWs.nil {nid : Nat} : TWs nid [] [] := fun _ _ _ _ _ h => h
theorem TWs.cons {nid : Nat} {x y : AV} {xs ys : List AV} (h : TW nid x y) (hs : TWs nid xs ys) : TWs nid (x :: xs) (y :: ys) := fun β O w vs hb hv => by
  simp only [AV.oks] at hv ⊢
  obtain ⟨v, r, h1, h2, h3⟩ := hv
  exact ⟨v, r, h1, h β O w v hb h2, hs β O w r hb h3⟩
theorem TW.nil {nid e e0 : Nat} : TW nid (.d (.sl e0 (some true) [])) (.own e nid []) := fun β O w v hb hv => by
  simp only [AV.ok] at hv ⊢
  have := nil_ok hv
  subst this
  simp only [D.ok]
  exact ⟨⟨none, 0, rfl, ⟨Nat.le_refl _, by omega⟩, trivial, .inl trivial⟩, _, 0, hb, Nat.le_refl _, fun _ => rfl⟩
theorem TW.tup {nid : Nat} {xs ys : List AV} (h : TWs nid xs ys) : TW nid (.tup xs) (.tup ys) := fun β O w v hb hv => by
  simp only [AV.ok] at hv ⊢
  obtain ⟨vs, h1, h2⟩ := hv
  exact ⟨vs, h1, h β O w _ hb h2⟩
theorem TW.agg {nid : Nat} {xs ys : List AV} (h : TWs nid xs ys) : TW nid (.agg xs) (.agg ys) := fun β O w v hb hv => by
  simp only [AV.ok] at hv ⊢
  obtain ⟨vs, h1, h0, h2⟩ := hv
  exact ⟨vs, h1, h0, h β O w _ hb h2⟩
theorem TW.aggD {nid : Nat} {ds : List D} {ys : List AV} (h : TWs nid (ds.map .d) ys) : TW nid (.d (.agg ds)) (.agg ys) := fun β O w v hb hv => by
  have hm : ∀ (ds : List D) (vs : List Value), D.oks O w ds vs → AV.oks β O w (ds.map .d) vs := fun ds => by
    induction ds with
    | nil => intro vs h; simpa [D.oks, AV.oks] using h
    | cons d ds ih =>
      intro vs h
      simp only [D.oks] at h
      obtain ⟨v, r, h1, _, h2, h3⟩ := h
      simp only [List.map_cons, AV.oks]
      exact ⟨v, r, h1, by simpa only [AV.ok] using h2, ih r h3⟩
  simp only [AV.ok, D.ok] at hv ⊢
  obtain ⟨vs, h1, h2⟩ := hv
  exact ⟨vs, h1, doks_ones h2, h β O w _ hb (hm _ _ h2)⟩
theorem Done.thawT {k : Nat} {x : AV} {s : Sto} (nid t e : Nat) (y : AV) (hd : sat s nid = .dead) (hxy : TW nid x y) : Done k x s y (sset s nid (.tok t e 0)) := fun C β w v _ hi hx => by
  obtain ⟨h1, m⟩ := St.tokNil (env := []) (a := { tmps := #[], defers := [] }) (t := t) (e := e) ⟨.nil, hi, rfl, fun i x hx => by simp at hx⟩ hd
  exact ⟨_, h1.inv, hxy _ _ _ _ (by simp [bset, Place.at, nilV0]) (m.ok hx)⟩
theorem Done.thawD {k : Nat} {x : AV} {s : Sto} (nid t e : Nat) (y : AV) (hd : sat s nid = .dead) (hxy : TW nid x y) : Done k x s y (sset s nid (.nst t e 0 [])) := fun C β w v _ hi hx => by
  obtain ⟨β', h1, h2, h3⟩ := St.thawN (env := []) (a := { tmps := #[], defers := [] }) ⟨.nil, hi, rfl, fun i x hx => by simp at hx⟩ t e hd
  refine ⟨β', h1.inv, hxy _ _ _ _ ?_ (h2 x v hx)⟩
  simp only [AV.ok] at h3
  obtain ⟨_, u, n, h4, h5, h6⟩ := h3
  have hob := h1.inv.obs nid
  rw [sat_sset, if_pos rfl] at hob
  obtain ⟨u', bs, k1, _⟩ := hob
  rw [k1] at h4 ⊢
  obtain ⟨rfl, rfl⟩ := h4
  rw [h6 rfl]
  exact ⟨rfl, rfl⟩
theorem Done.absorbL {k : Nat} {x : AV} {s : Sto} (id id' q : Nat) {L : List AV} {t e n e' : Nat} {xs' : List D} (hs : sat s id = .nst t e n L) (hq : L[q]? = some (.own e' id' xs'))
    (hk : k ≤ id') (hne : id ≠ id') (hw : Whole s id' e' xs') :
    Done k x s (x.ren (killρ id')) (sset (skill id' s) id (.nst t e n ((AV.rens (killρ id') L).set q (.dp (.sl e' none xs'))))) :=
  Done.of_weak (by have := Weak.absorbL (env := [x]) id id' q hs hq hk hne hw; simpa only [AV.rens] using this)
theorem Done.nstE {k : Nat} {x : AV} {s : Sto} (id : Nat) {t e n : Nat} {cs : List AV} (cs' : List AV) (hs : sat s id = .nst t e n cs) (h : cs = cs') : Done k x s x (sset s id (.nst t e n cs')) :=
  Done.of_weak (Weak.nstE id cs' hs h)
theorem noDp_nil : noDp [] = true := (rfl)
theorem noDp_d {x : D} {xs : List AV} : noDp (.d x :: xs) = noDp xs := (rfl)
theorem noDp_own {e id : Nat} {ds : List D} {xs : List AV} : noDp (.own e id ds :: xs) = noDp xs := (rfl)
theorem noDp_gow {e id n : Nat} {xs : List AV} : noDp (.gow e id n :: xs) = noDp xs := (rfl)
attribute [go_sem] noDp_nil noDp_d noDp_own noDp_gow
theorem NsLe_refl_t {xs : List AV} : NsLe xs xs ↔ True := ⟨fun _ => trivial, fun _ => NsLe.refl xs⟩
attribute [go_sem] NsLe_refl_t ne_eq not_false_eq_true
theorem rens_take {ρ : Nat → Option Nat} {xs : List AV} {n : Nat} : AV.rens ρ (xs.take n) = (AV.rens ρ xs).take n := by simp only [rens_mapB, List.map_take]
theorem rens_drop {ρ : Nat → Option Nat} {xs : List AV} {n : Nat} : AV.rens ρ (xs.drop n) = (AV.rens ρ xs).drop n := by simp only [rens_mapB, List.map_drop]
attribute [go_sem] rens_take rens_drop
theorem Inv.prv_len {C : Ctx} {β : Beta} {s : Sto} {w : World} (h : Inv C β s w) {id e n : Nat} {xs : List D} (hs : sat s id = .prv e n (tolds xs)) (he : ∀ x ∈ xs, (dcells x).length = e) (h0 : 0 < e) : n = xs.length := by
  have ho := h.obs id
  rw [hs] at ho
  obtain ⟨u, bs, _, _, hl, _⟩ := ho
  rw [tolds_len he] at hl
  exact (Nat.eq_of_mul_eq_mul_right h0 hl).symm
section
variable {α γ : Type} [Inhabited α] {f : α → D} {f' : γ → D} {e e' n k0 : Nat} {s : Sto} {env : List AV} {xs : List α} {y y' : α} {ys : List γ} {i k : Nat}
theorem set_self (hi : i < xs.length) : xs.set i (xs.getD i default) = xs := by
  rw [List.getD_eq_getElem?_getD, List.getElem?_eq_getElem hi]
  exact List.set_getElem_self hi
theorem getD_set_self (hi : i < xs.length) : (xs.set i y).getD i default = y := by
  rw [List.getD_eq_getElem?_getD, List.getElem?_set_self hi]; rfl
theorem told_at2 [Cel f e] (hi : i < xs.length) (hk : k < e) : (tolds ((xs.set i y).map f))[i * e + k]? = some (toldC ((dcells (f y)).getD k .any)) := by
  have := told_at (f := f) (e := e) (xs := xs.set i y) (i := i) (k := k) (by simpa using hi) hk
  rwa [getD_set_self hi] at this
theorem told_setc2 [Cel f e] {d : D} (hi : i < xs.length) (hk : k < e) (h : (dcells (f y)).set k d = dcells (f y')) :
    (tolds ((xs.set i y).map f)).set (i * e + k) (toldC d) = tolds ((xs.set i y').map f) := by
  rw [told_setc (xs := xs.set i y) (y := y') (by simpa using hi) hk (by rw [getD_set_self hi]; exact h), List.set_set]
theorem told_seg2 [Cel f e] {d : D} {x : AV} {m m' : Nat} (hi : i < xs.length) (hk : k < e) (hm : m = i * e + k) (hm' : m' = m + 1) (hx : x = toldC d) (h : (dcells (f y)).set k d = dcells (f y')) :
    (tolds ((xs.set i y).map f)).take m ++ [x] ++ (tolds ((xs.set i y).map f)).drop m' = tolds ((xs.set i y').map f) := by
  subst hm; subst hm'; subst hx
  rw [seg1_set (by rw [told_len, List.length_set]; exact idx_lt hi hk), told_setc2 hi hk h]
theorem told_segE [Cel f e] {L : List AV} {m m' : Nat} (hi : i < xs.length) (hm : m = i * e) (hm' : m' = i * e + e) (hL : L = (dcells (f y)).map toldC) :
    (tolds (xs.map f)).take m ++ L ++ (tolds (xs.map f)).drop m' = tolds ((xs.set i y).map f) := by
  subst hm; subst hm'; subst hL
  have h1 := groL_take Cel.len xs i 0 hi (Nat.zero_le e) (f := f)
  have h2 := groL_drop Cel.len xs i e hi (Nat.le_refl e) (f := f)
  rw [tolds_L, tolds_L, ← List.map_take, ← List.map_drop, h2]
  rw [Nat.add_zero] at h1
  rw [h1, List.take_zero, List.append_nil, List.drop_of_length_le (by rw [Cel.len]; exact Nat.le_refl _), List.nil_append, List.set_eq_take_append_cons_drop, if_pos hi, groL_append, groL_cons]
  simp only [List.map_append, List.append_assoc]
theorem set_getD2 [Cel f e] {x : AV} (hi : i < xs.length) (hk : k < e) : ((tolds ((xs.set i y).map f)).set (i * e + k) x).getD (i * e + k) .junk = x := by
  rw [List.getD_eq_getElem?_getD, List.getElem?_set, if_pos rfl, if_pos (by rw [told_len, List.length_set]; exact idx_lt hi hk)]; rfl
theorem set_getD20 [Cel f e] {x : AV} (hi : i < xs.length) (hk : 0 < e) : ((tolds ((xs.set i y).map f)).set (i * e) x).getD (i * e) .junk = x := set_getD2 (k := 0) hi hk
theorem Weak.extC [Cel f e] [Cel f' e'] [Cl f'] (id c i k : Nat) {m : Nat} (hs : sat s id = .prv e n (tolds ((xs.set i y).map f))) (hi : i < xs.length) (hk : k < e) (hm : m = i * e + k) (hy : (dcells (f y)).getD k .any = slD e' f' ys)
    (hd : sat s c = .dead) (hc : k0 ≤ c) :
    Weak k0 env s env (sset (sset s c (.prv e' ys.length (tolds (ys.map f')))) id (.prv e n ((tolds ((xs.set i y).map f)).set m (.gow e' c ys.length)))) := by
  subst hm
  have h1 := told_at2 (f := f) (e := e) (xs := xs) (y := y) hi hk
  rw [hy] at h1
  have := Weak.extract (env := env) (k := k0) id c (i * e + k) hs h1 hd hc told_cond.1 told_cond.2
  simpa only [List.length_map] using this
theorem Weak.absC [Cel f e] [Cel f' e'] [Cl f'] (id c i k : Nat) {m q q' : Nat} (hs : sat s id = .prv e n ((tolds ((xs.set i y).map f)).set m (.gow e' c q))) (hcs : sat s c = .prv e' q' (tolds (ys.map f'))) (hq : q = q')
    (hi : i < xs.length) (hk : k < e) (hm : m = i * e + k) (h0 : 0 < e') (h : (dcells (f y)).set k (slD e' f' ys) = dcells (f y')) (hc : k0 ≤ c) (hne : id ≠ c) :
    Weak k0 env s (AV.rens (killρ c) env) (sset (sdel c s) id (.prv e n (tolds ((xs.set i y').map f)))) := fun C β a w hC hst => by
  subst hC; subst hm; subst hq
  have hlen := hst.inv.prv_len hcs told_cond.1 h0
  rw [List.length_map] at hlen
  subst hlen
  have hj : ((tolds ((xs.set i y).map f)).set (i * e + k) (.gow e' c ys.length))[i * e + k]? = some (.gow e' c (ys.map f').length) := by
    rw [List.getElem?_set, if_pos rfl, if_pos (by rw [told_len, List.length_set]; exact idx_lt hi hk), List.length_map]
  obtain ⟨β', h2⟩ := hst.absorbP hne hc hs hj (WholeP.of hcs rfl)
  have hcs' : (AV.rens (killρ c) ((tolds ((xs.set i y).map f)).set (i * e + k) (.gow e' c ys.length))).set (i * e + k) (.dp (.sl e' none (ys.map f'))) = tolds ((xs.set i y').map f) := by
    rw [rens_set', rens_tolds, List.set_set]
    exact told_setc2 hi hk h
  rw [hcs'] at h2
  have hsat : ∀ q, sat (sset (sdel c s) id (.prv e n (tolds ((xs.set i y').map f)))) q = sat (sset (skill c s) id (.prv e n (tolds ((xs.set i y').map f)))) q := fun q => by
    rw [sat_sset, sat_sset, sat_sdel]
  obtain ⟨g1, g2⟩ := h2.inv.told (s' := sset (sdel c s) id (.prv e n (tolds ((xs.set i y').map f)))) fun q => by rw [hsat]; exact ObLe.refl _
  exact ⟨β', h2.defers, g1, h2.len, fun j x hx => by rw [g2]; exact h2.env j x hx⟩
theorem Weak.absSeg [Cel f' e'] [Cl f'] (id c q : Nat) {A L B : List AV} {m m' : Nat} (hs : sat s id = .prv e n (A ++ L ++ B)) (hq : L[q]? = some (.gow e' c m)) (hcs : sat s c = .prv e' m' (tolds (ys.map f'))) (hm : m = m') (h0 : 0 < e')
    (hc : k0 ≤ c) (hne : id ≠ c) :
    Weak k0 env s (AV.rens (killρ c) env) (sset (skill c s) id (.prv e n (AV.rens (killρ c) A ++ (AV.rens (killρ c) L).set q (.dp (slD e' f' ys)) ++ AV.rens (killρ c) B))) := fun C β a w hC hst => by
  subst hC; subst hm
  have hlen := hst.inv.prv_len hcs told_cond.1 h0
  rw [List.length_map] at hlen
  subst hlen
  have hqL : q < L.length := (List.getElem?_eq_some_iff.1 hq).1
  have hj : (A ++ L ++ B)[A.length + q]? = some (.gow e' c (ys.map f').length) := by
    rw [List.append_assoc, List.getElem?_append_right (by omega), Nat.add_sub_cancel_left, List.getElem?_append_left hqL, hq, List.length_map]
  obtain ⟨β', h2⟩ := hst.absorbP hne hc hs hj (WholeP.of hcs rfl)
  refine ⟨β', ?_⟩
  have : (AV.rens (killρ c) (A ++ L ++ B)).set (A.length + q) (.dp (.sl e' none (ys.map f'))) = AV.rens (killρ c) A ++ (AV.rens (killρ c) L).set q (.dp (slD e' f' ys)) ++ AV.rens (killρ c) B := by
    rw [rens_append', rens_append', List.append_assoc, List.append_assoc, List.set_append, if_neg (by rw [rens_length]; omega), rens_length, Nat.add_sub_cancel_left, List.set_append, if_pos (by rw [rens_length]; exact hqL)]
    rfl
  rw [this] at h2
  exact h2
end
attribute [go_sem] set_getD2 set_getD20 told_len
theorem Weak.prvZ {α : Type} {f : α → D} {e n m k0 id : Nat} {s : Sto} {env : List AV} {z : List AV} (x0 : α) (hs : sat s id = .prv e n ((List.replicate m z).flatten)) (h : NsLe z ((dcells (f x0)).map toldC)) :
    Weak k0 env s env (sset s id (.prv e n (tolds ((List.replicate m x0).map f)))) :=
  Weak.prvLe id _ hs (by rw [List.map_replicate]; exact NsLe.rep h m)
end Abx
namespace Go.Proofs.YtklfjpilhbkekaaGreat
open Go Abx
attribute [local irreducible] vcm vgo vdr vrun vdrun MWp GhostQ BrC BrO BrG BrD BrH AmbO callR callD drQ EnvLe StoLe
set_option maxHeartbeats 4000000
instance : Cl D_impl_Rule := Cl.agg _ (fun _ => rfl) (fun _ => rfl)
instance : Cl D_impl_Node := Cl.agg _ (fun _ => rfl) (fun _ => rfl)
instance : Cl D_impl_Move := Cl.agg _ (fun _ => rfl) (fun _ => rfl)
instance : Cl D_impl_Chain := Cl.agg _ (fun _ => rfl) (fun _ => rfl)
def mc146 : MCode :=
 (.seq (.reg (sq 2 [mb false])) (.seq (.reg (sq 3 [mv 0, ln 3, bi .geq 4 1, mv 5] ++ sg 6 true 7 [mv 0, ln 7, bi .leq 8 60] ++ sq 10 [pa 6 9] ++ sq 2 [mv 10])) .ret))
theorem fn146 : MFn Tryz.prog 146 mc146 11 [.tmp 2] := ⟨_, Tryz.func146, by kernel_rfl, Tryz.ntmps146, by kernel_rfl⟩
noncomputable def F_impl_sized (t : (List Int)) : Option Bool :=
 if (decide (1 ≤ (t.length : Int))) = true then
  some (decide ((t.length : Int) ≤ 60))
 else
  some false
instance c_impl_sized {t : (List Int)} : HasC (F_impl_sized t) fun rr => PFun Tryz.prog 146 [(slD 1 iD) t] (bD rr) := ⟨@fun rr h => by
  delta F_impl_sized at h
  refine fn146.pureL (vcm_sound ?_)
  delta mc146
  refine stp ?_
  exact aut⟩
def mc77 : MCode :=
 (.seq (.reg (sq 1 [bo 1 120 0, .alloc 2 125 [.lit (.int .i64 0), .sl 0 (some true) [], .sl 0 (some true) [], .sl 0 (some true) []]])) (.seq (.seq (.reg (sq 7 [fa 1 1, ld 7, ln 8, bi .gtr 9 60, mv 10] ++ sg 11 false 12 [fa 0 1, ld 12, cf 146 [13], nt 14] ++ sq 16 [po 11 15])) (.cond (t0 16) (.seq (.reg (sq 17 [.build [.lit (.int .i64 0), .sl 0 (some true) [], .sl 0 (some true) [], .sl 0 (some true) []] []] ++ s0 (sr 4 2 17))) .ret) .skip)) (.seq (.reg (sq 18 [fa 0 1, ld 18, cf 121 [19], .bsl 21 22 1 [(t0 20)], .build [.lit (.int .i64 0), .sl 0 (some true) [], .sl 0 (some true) [], .sl 0 (some true) []] [(0, 1, (i0 11)), (2, 1, (t0 21))]] ++ sq 3 [.alloc 3 125 [.lit (.int .i64 0), .sl 0 (some true) [], .sl 0 (some true) [], .sl 0 (some true) []]] ++ s0 (sr 4 3 22))) (.seq (.seq (.reg (sq 23 [fa 1 1, ld 23, ln 24, mi 0])) (.block 0 (.loop (.seq (.reg (sq 27 [bn .lss 26 25])) (.seq (.cond (t0 27) .skip (.exit 0)) (.seq (.block 1 (.seq (.reg (sq 28 [ix 4 24 26, la 4 28] ++ sq 5 [.alloc 5 183 [.lit (.int .i64 0), .lit (.int .i64 0), .lit (.bool false), .sl 0 (some true) []]] ++ s0 (sr 4 5 29))) (.seq (.seq (.reg (sq 30 [fa 3 5, ld 30, cf 146 [31], nt 32])) (.cond (t0 33) (.seq (.reg (sq 34 [.build [.lit (.int .i64 0), .sl 0 (some true) [], .sl 0 (some true) [], .sl 0 (some true) []] []] ++ s0 (sr 4 2 34))) .ret) .skip)) (.seq (.reg (sq 6 [mi 0])) (.seq (.seq (.reg (sq 35 [fa 2 5, ld 35])) (.cond (t0 36) (.reg (sq 6 [mi 1])) .skip)) (.seq (.reg (sq 37 [fa 1 3, ld 37, fa 0 5, ld 39, fa 1 5, ld 41, mv 6, .bsl 44 2 1 [(t0 40), (t0 42), (t0 43)], ap 45 2 1 8 38 44, fa 1 3] ++ s0 (sr 1 46 45))) (.draw (sq 47 [fa 2 3, ld 47, fa 3 5, ld 49, cf 121 [50], .bsl 52 22 1 [(t0 51)], ap 53 22 1 24 48 52, fa 2 3] ++ s0 (sr 1 54 53)) [[], [0], [], [2], [3], [4], [1, 5, 4], [0, 1, 2, 3, 4, 5, 6], [7, 6, 6, 0, 1, 2, 3, 4, 5, 6]]))))))) (.reg (sq 55 [bi .add 26 1] ++ sq 26 [mv 55])))))))) (.seq (.reg (sq 56 [la 4 3] ++ s0 (sr 4 2 56))) .ret)))))
theorem fn77 : MFn Tryz.prog 77 mc77 57 [.cell 2 4 true] := ⟨_, Tryz.func77, by kernel_rfl, Tryz.ntmps77, by kernel_rfl⟩
noncomputable def F_impl_ChainNode_l1 (c : ((List Int) × (List (Int × Int × Bool × (List Int))))) : (Int × (List Int) × (List (List Int))) → Option ((Int × (List Int) × (List (List Int))) ⊕ (Int × (List Int) × (List (List Int)) × (List Int)))
 | (v26, out, out_1) =>
  if (decide (v26 < (c.2.length : Int))) = true then
   if 0 ≤ v26 ∧ v26 < (c.2.length : Int) then
    (F_impl_sized ((c.2.getD v26.toNat default).2.2.2)).bind fun r_2 =>
    if r_2 = true then
     if (c.2.getD v26.toNat default).2.2.1 = true then
      if (out.length + 3) * 8 ≤ 140737488355328 then
       (F_slices_Clone_int64_int64 ((c.2.getD v26.toNat default).2.2.2)).bind fun r_3 =>
       if (out_1.length + 1) * 24 ≤ 140737488355328 then
        some (.inl ((IntKind.i64.wrap (v26 + 1)), (out ++ [(c.2.getD v26.toNat default).1, (c.2.getD v26.toNat default).2.1, 1]), (out_1 ++ [r_3])))
       else none
      else none
     else
      if (out.length + 3) * 8 ≤ 140737488355328 then
       (F_slices_Clone_int64_int64 ((c.2.getD v26.toNat default).2.2.2)).bind fun r_4 =>
       if (out_1.length + 1) * 24 ≤ 140737488355328 then
        some (.inl ((IntKind.i64.wrap (v26 + 1)), (out ++ [(c.2.getD v26.toNat default).1, (c.2.getD v26.toNat default).2.1, 0]), (out_1 ++ [r_4])))
       else none
      else none
    else
     Option.map Sum.inr (
      some (0, [], [], []))
   else none
  else
   Option.map Sum.inr (
    some (11, out, out_1, []))
noncomputable def F_impl_ChainNode (c : ((List Int) × (List (Int × Int × Bool × (List Int))))) : Option (Int × (List Int) × (List (List Int)) × (List Int)) :=
 if (decide (60 < (c.2.length : Int))) = true then
  some (0, [], [], [])
 else
  (F_impl_sized c.1).bind fun r =>
  if r = true then
   (F_slices_Clone_int64_int64 c.1).bind fun r_1 =>
   loopC (F_impl_ChainNode_l1 c) (0, [], [r_1])
  else
   some (0, [], [], [])
instance c_impl_ChainNode {c : ((List Int) × (List (Int × Int × Bool × (List Int))))} : HasC (F_impl_ChainNode c) fun rr => PFun Tryz.prog 77 [D_impl_Chain c] (D_impl_Node rr) := ⟨@fun rr h => by
  delta F_impl_ChainNode at h
  refine fn77.pureL (vcm_sound ?_)
  delta mc77
  refine stp ?_
  refine iF h fun hc h => ?_
  refine rC h fun r hr h => ?_
  refine iT h fun hc h => ?_
  refine rC h fun r_1 hr_1 h => ?_
  refine m_loopF h [5, 6, 26, 27, 28, 29, 30, 31, 32, 33, 34, 35, 36, 37, 38, 39, 40, 41, 42, 43, 44, 45, 46, 47, 48, 49, 50, 51, 52, 53, 54, 55] (fun pp => [(26, .d (iD pp.1))]) (fun pp => [(1, .obj 120 [.d (slD 1 iD c.1), .d (slD 4 D_impl_Move c.2)]), (2, .obj 125 [.d (iD 0), .d (.sl 0 (some true) []), .d (.sl 0 (some true) []), .d (.sl 0 (some true) [])]), (3, .obj 125 [.d (iD 11), .own 1 45 (List.map iD pp.2.1), .own 1 21 (List.map (slD 1 iD) pp.2.2), .d (.sl 0 (some true) [])]), (21, .tok 22 1 pp.2.2.length), (45, .tok 2 1 pp.2.1.length)]) ?_ ?_
  · try dsimp only
    refine (Weak.thawCell 3 1 45 2 1 rfl rfl rfl).trans ?_
    exact wk
  rintro ⟨v26, out, out_1⟩ t1 h hb1
  unfold F_impl_ChainNode_l1 at h
  try dsimp only at h
  refine vcm_sound (stp ?_)
  refine iT h fun hc h => ?_
  refine ndI h fun hp h => ?_
  refine rC h fun r_2 hr_2 h => ?_
  refine iT h fun hc h => ?_
  refine it h (fun hc h => ?_) fun hc h => ?_
  · refine ndI h fun hp h => ?_
    refine dC h fun r_3 hr_3 h => ?_
    refine ndI h fun hp h => ?_
    refine drQ_of (by kernel_rfl) (stp ?_)
    cases h
    refine ⟨_, rfl, ?_⟩
    refine (Weak.drop 5 (by omega)).trans ?_
    refine (Weak.drop 44 (by omega)).trans ?_
    refine (Weak.drop 52 (by omega)).trans ?_
    exact wk
  refine ndI h fun hp h => ?_
  refine dC h fun r_4 hr_4 h => ?_
  refine ndI h fun hp h => ?_
  refine drQ_of (by kernel_rfl) (stp ?_)
  cases h
  refine ⟨_, rfl, ?_⟩
  refine (Weak.drop 5 (by omega)).trans ?_
  refine (Weak.drop 44 (by omega)).trans ?_
  refine (Weak.drop 52 (by omega)).trans ?_
  exact wk⟩
noncomputable def F_slices_Clone_int64_int64_s1 (s : (List Int)) : Option (List Int) :=
 ambO s (
  some []) (
  if (0 + s.length) * 8 ≤ 140737488355328 then
   some s
  else none)
instance c_slices_Clone_int64_int64_s1 {s : (List Int)} : HasC (F_slices_Clone_int64_int64_s1 s) fun rr => ACalls Tryz.prog 121 [.d (slD 1 iD s)] [] 0 fun xx ss => xx = .own 1 900000 (List.map iD rr) ∧ ss = [(900000, .tok 2 1 rr.length)] := ⟨@fun rr h => by
  delta F_slices_Clone_int64_int64_s1 at h
  refine fn121.callsD (vcm_sound ?_)
  delta mc121
  refine stp ?_
  have h1 := amb_some h
  refine AmbO.of (fun he => ?_) ?_
  · replace h := h1.1 (by simpa using he)
    clear h1
    refine stp ?_
    cases h
    exact Done.trans ((Done.thawT 900000 2 1 (.own 1 900000 (List.map iD [])) (by first | rfl | simp [sat]) (by repeat' (first | exact TW.nil | refine TW.tup ?_ | refine TW.aggD ?_ | refine TW.agg ?_ | refine TWs.cons ?_ ?_ | exact TWs.nil | exact TW.refl)))) (Done.told frd don)
  · replace h := h1.2
    clear h1
    refine stp ?_
    refine ndI h fun hp h => ?_
    cases h
    exact Done.trans ((Done.move 5 900000 (ob := .tok 2 1 s.length) (by omega) (by omega) (by omega) rfl (by first | rfl | (simp; done) | (simp [sat, smove, sset, skill, sdel, sdels, Ob.ren, Ob.kill, rens_tolds]; done)))) (Done.told frd don)⟩
def mc77_impl_ChainNode_s1 : MCode :=
 (.seq (.reg (sq 1 [bo 1 120 0, .alloc 2 125 [.lit (.int .i64 0), .sl 0 (some true) [], .sl 0 (some true) [], .sl 0 (some true) []]])) (.seq (.seq (.reg (sq 7 [fa 1 1, ld 7, ln 8, bi .gtr 9 60, mv 10] ++ sg 11 false 12 [fa 0 1, ld 12, cf 146 [13], nt 14] ++ sq 16 [po 11 15])) (.cond (t0 16) (.seq (.reg (sq 17 [.build [.lit (.int .i64 0), .sl 0 (some true) [], .sl 0 (some true) [], .sl 0 (some true) []] []] ++ s0 (sr 4 2 17))) .ret) .skip)) (.seq (.reg (sq 18 [fa 0 1, ld 18, cf 121 [19], .bsln 21 22 1 [(t0 20)], .build [.lit (.int .i64 0), .sl 0 (some true) [], .sl 0 (some true) [], .sl 0 (some true) []] [(0, 1, (i0 11)), (2, 1, (t0 21))]] ++ sq 3 [.alloc 3 125 [.lit (.int .i64 0), .sl 0 (some true) [], .sl 0 (some true) [], .sl 0 (some true) []]] ++ s0 (sr 4 3 22))) (.seq (.seq (.reg (sq 23 [fa 1 1, ld 23, ln 24, mi 0])) (.block 0 (.loop (.seq (.reg (sq 27 [bn .lss 26 25])) (.seq (.cond (t0 27) .skip (.exit 0)) (.seq (.block 1 (.seq (.reg (sq 28 [ix 4 24 26, la 4 28] ++ sq 5 [.alloc 5 183 [.lit (.int .i64 0), .lit (.int .i64 0), .lit (.bool false), .sl 0 (some true) []]] ++ s0 (sr 4 5 29))) (.seq (.seq (.reg (sq 30 [fa 3 5, ld 30, cf 146 [31], nt 32])) (.cond (t0 33) (.seq (.reg (sq 34 [.build [.lit (.int .i64 0), .sl 0 (some true) [], .sl 0 (some true) [], .sl 0 (some true) []] []] ++ s0 (sr 4 2 34))) .ret) .skip)) (.seq (.reg (sq 6 [mi 0])) (.seq (.seq (.reg (sq 35 [fa 2 5, ld 35])) (.cond (t0 36) (.reg (sq 6 [mi 1])) .skip)) (.seq (.reg (sq 37 [fa 1 3, ld 37, fa 0 5, ld 39, fa 1 5, ld 41, mv 6, .bsl 44 2 1 [(t0 40), (t0 42), (t0 43)], ap 45 2 1 8 38 44, fa 1 3] ++ s0 (sr 1 46 45))) (.draw (sq 47 [fa 2 3, ld 47, fa 3 5, ld 49, cf 121 [50], .bsln 52 22 1 [(t0 51)], .appn 53 22 1 24 (t0 48) (t0 52), fa 2 3] ++ s0 (sr 1 54 53)) [[], [0], [], [2], [3], [4], [1, 5, 4], [0, 1, 2, 3, 4, 5, 6], [7, 6, 6, 0, 1, 2, 3, 4, 5, 6]]))))))) (.reg (sq 55 [bi .add 26 1] ++ sq 26 [mv 55])))))))) (.seq (.reg (sq 56 [la 4 3] ++ s0 (sr 4 2 56))) .ret)))))
theorem fn77_impl_ChainNode_s1 : MFn Tryz.prog 77 mc77_impl_ChainNode_s1 57 [.cell 2 4 true] := ⟨_, Tryz.func77, by kernel_rfl, Tryz.ntmps77, by kernel_rfl⟩
noncomputable def F_impl_ChainNode_s1_l1 (c : ((List Int) × (List (Int × Int × Bool × (List Int))))) : (Int × (List Int) × (List (List Int))) → Option ((Int × (List Int) × (List (List Int))) ⊕ (Int × (List Int) × (List (List Int)) × (List Int)))
 | (v26, out, out_1) =>
  if (decide (v26 < (c.2.length : Int))) = true then
   if 0 ≤ v26 ∧ v26 < (c.2.length : Int) then
    (F_impl_sized ((c.2.getD v26.toNat default).2.2.2)).bind fun r_2 =>
    if r_2 = true then
     if (c.2.getD v26.toNat default).2.2.1 = true then
      if (out.length + 3) * 8 ≤ 140737488355328 then
       (F_slices_Clone_int64_int64_s1 ((c.2.getD v26.toNat default).2.2.2)).bind fun r_3 =>
       if (out_1.length + 1) * 24 ≤ 140737488355328 then
        some (.inl ((IntKind.i64.wrap (v26 + 1)), (out ++ [(c.2.getD v26.toNat default).1, (c.2.getD v26.toNat default).2.1, 1]), (out_1 ++ [r_3])))
       else none
      else none
     else
      if (out.length + 3) * 8 ≤ 140737488355328 then
       (F_slices_Clone_int64_int64_s1 ((c.2.getD v26.toNat default).2.2.2)).bind fun r_4 =>
       if (out_1.length + 1) * 24 ≤ 140737488355328 then
        some (.inl ((IntKind.i64.wrap (v26 + 1)), (out ++ [(c.2.getD v26.toNat default).1, (c.2.getD v26.toNat default).2.1, 0]), (out_1 ++ [r_4])))
       else none
      else none
    else
     Option.map Sum.inr (
      some (0, [], [], []))
   else none
  else
   Option.map Sum.inr (
    some (11, out, out_1, []))
noncomputable def F_impl_ChainNode_s1 (c : ((List Int) × (List (Int × Int × Bool × (List Int))))) : Option (Int × (List Int) × (List (List Int)) × (List Int)) :=
 if (decide (60 < (c.2.length : Int))) = true then
  some (0, [], [], [])
 else
  (F_impl_sized c.1).bind fun r =>
  if r = true then
   (F_slices_Clone_int64_int64_s1 c.1).bind fun r_1 =>
   loopC (F_impl_ChainNode_s1_l1 c) (0, [], [r_1])
  else
   some (0, [], [], [])
instance c_impl_ChainNode_s1 {c : ((List Int) × (List (Int × Int × Bool × (List Int))))} : HasC (F_impl_ChainNode_s1 c) fun rr => ACalls Tryz.prog 77 [.d (.agg [slD 1 iD c.1, slD 4 D_impl_Move c.2])] [] 0 fun xx ss => xx = .agg [.d (iD rr.1), .own 1 900000 (List.map iD rr.2.1), .own 1 900001 (List.map (slD 1 iD) rr.2.2.1), .own 1 900002 (List.map iD rr.2.2.2)] ∧ ss = [(900000, .tok 2 1 rr.2.1.length), (900001, .nst 22 1 rr.2.2.1.length (tolds (List.map (slD 1 iD) rr.2.2.1))), (900002, .tok 2 1 rr.2.2.2.length)] := ⟨@fun rr h => by
  delta F_impl_ChainNode_s1 at h
  refine fn77_impl_ChainNode_s1.callsD (vcm_sound ?_)
  delta mc77_impl_ChainNode_s1
  refine stp ?_
  refine it h (fun hc h => ?_) fun hc h => ?_
  · cases h
    exact Done.trans ((Done.trans (Done.thawT 900000 2 1 (.agg [.d (iD 0), .own 1 900000 (List.map iD []), .d (.sl 0 (some true) []), .d (.sl 0 (some true) [])]) (by first | rfl | simp [sat]) (by repeat' (first | exact TW.nil | refine TW.tup ?_ | refine TW.aggD ?_ | refine TW.agg ?_ | refine TWs.cons ?_ ?_ | exact TWs.nil | exact TW.refl))) (Done.trans (Done.thawD 900001 22 1 (.agg [.d (iD 0), .own 1 900000 (List.map iD []), .own 1 900001 (List.map (slD 1 iD) []), .d (.sl 0 (some true) [])]) (by first | rfl | simp [sat]) (by repeat' (first | exact TW.nil | refine TW.tup ?_ | refine TW.aggD ?_ | refine TW.agg ?_ | refine TWs.cons ?_ ?_ | exact TWs.nil | exact TW.refl))) (Done.trans (Done.thawT 900002 2 1 (.agg [.d (iD 0), .own 1 900000 (List.map iD []), .own 1 900001 (List.map (slD 1 iD) []), .own 1 900002 (List.map iD [])]) (by first | rfl | simp [sat]) (by repeat' (first | exact TW.nil | refine TW.tup ?_ | refine TW.aggD ?_ | refine TW.agg ?_ | refine TWs.cons ?_ ?_ | exact TWs.nil | exact TW.refl))) (Done.drops [1, 2] (by simp)))))) (Done.told frd don)
  refine rC h fun r hr h => ?_
  refine it h (fun hc h => ?_) fun hc h => ?_
  · refine rCo [] [(900000, 20)] h fun r_1 hr_1 h => ?_
    refine nds ?_
    refine m_loopF h [5, 6, 20, 21, 22, 26, 27, 28, 29, 30, 31, 32, 33, 34, 35, 36, 37, 38, 39, 40, 41, 42, 43, 44, 45, 46, 47, 48, 49, 50, 51, 52, 53, 54, 55] (fun pp => [(26, .d (iD pp.1))]) (fun pp => [(1, .obj 120 [.d (slD 1 iD c.1), .d (slD 4 D_impl_Move c.2)]), (2, .obj 125 [.d (iD 0), .d (.sl 0 (some true) []), .d (.sl 0 (some true) []), .d (.sl 0 (some true) [])]), (3, .obj 125 [.d (iD 11), .own 1 45 (List.map iD pp.2.1), .own 1 21 (List.map (slD 1 iD) pp.2.2), .d (.sl 0 (some true) [])]), (21, .nst 22 1 pp.2.2.length (tolds (List.map (slD 1 iD) pp.2.2))), (45, .tok 2 1 pp.2.1.length)]) ?_ ?_
    · try dsimp only
      refine (Weak.absorbL 21 20 0 rfl rfl (by omega) (by decide) (Whole.flat (t := 2) (n := r_1.length) (by first | rfl | (simp [sat, smove, sset, skill, sdel, sdels, Ob.ren, Ob.kill, rens_tolds]; done)) (by simp))).trans ?_
      refine (Weak.drop 20 (by omega)).trans ?_
      refine (Weak.nstE 21 (tolds (List.map (slD 1 iD) [r_1])) rfl (by first | rfl | (rw [List.map_append, tolds_append]; rfl) | (simp only [go_sem, AV.rens, AV.ren, List.map_append, tolds_append]; first | done | rfl))).trans ?_
      refine (Weak.thawCell 3 1 45 2 1 rfl rfl rfl).trans ?_
      exact wk
    rintro ⟨v26, out, out_1⟩ t1 h hb1
    unfold F_impl_ChainNode_s1_l1 at h
    try dsimp only at h
    refine vcm_sound (stp ?_)
    refine it h (fun hc h => ?_) fun hc h => ?_
    · refine ndI h fun hp h => ?_
      refine rC h fun r_2 hr_2 h => ?_
      refine it h (fun hc h => ?_) fun hc h => ?_
      · refine it h (fun hc h => ?_) fun hc h => ?_
        · refine ndI h fun hp h => ?_
          refine dCo [] [(900000, 51)] h fun r_3 hr_3 h => ?_
          refine nds ?_
          refine ndI h fun hp h => ?_
          refine drQ_of (by kernel_rfl) (stp ?_)
          cases h
          refine ⟨_, rfl, ?_⟩
          refine (Weak.absorbA 21 51 0 rfl rfl (by omega) (by decide) (Whole.flat (t := 2) (n := r_3.length) (by first | rfl | (simp [sat, smove, sset, skill, sdel, sdels, Ob.ren, Ob.kill, rens_tolds]; done)) (by simp))).trans ?_
          refine (Weak.drop 51 (by omega)).trans ?_
          refine (Weak.nstE 21 (tolds (List.map (slD 1 iD) (out_1 ++ [r_3]))) rfl (by first | rfl | (rw [List.map_append, tolds_append]; rfl) | (simp only [go_sem, AV.rens, AV.ren, List.map_append, tolds_append]; first | done | rfl))).trans ?_
          refine (Weak.drop 5 (by omega)).trans ?_
          refine (Weak.drop 44 (by omega)).trans ?_
          refine (Weak.drop 52 (by omega)).trans ?_
          exact wk
        refine ndI h fun hp h => ?_
        refine dCo [] [(900000, 51)] h fun r_4 hr_4 h => ?_
        refine nds ?_
        refine ndI h fun hp h => ?_
        refine drQ_of (by kernel_rfl) (stp ?_)
        cases h
        refine ⟨_, rfl, ?_⟩
        refine (Weak.absorbA 21 51 0 rfl rfl (by omega) (by decide) (Whole.flat (t := 2) (n := r_4.length) (by first | rfl | (simp [sat, smove, sset, skill, sdel, sdels, Ob.ren, Ob.kill, rens_tolds]; done)) (by simp))).trans ?_
        refine (Weak.drop 51 (by omega)).trans ?_
        refine (Weak.nstE 21 (tolds (List.map (slD 1 iD) (out_1 ++ [r_4]))) rfl (by first | rfl | (rw [List.map_append, tolds_append]; rfl) | (simp only [go_sem, AV.rens, AV.ren, List.map_append, tolds_append]; first | done | rfl))).trans ?_
        refine (Weak.drop 5 (by omega)).trans ?_
        refine (Weak.drop 44 (by omega)).trans ?_
        refine (Weak.drop 52 (by omega)).trans ?_
        exact wk
      replace h := inr_some h hb1
      cases h
      exact Done.trans ((Done.trans (Done.thawT 900000 2 1 (.agg [.d (iD 0), .own 1 900000 (List.map iD []), .d (.sl 0 (some true) []), .d (.sl 0 (some true) [])]) (by first | rfl | simp [sat]) (by repeat' (first | exact TW.nil | refine TW.tup ?_ | refine TW.aggD ?_ | refine TW.agg ?_ | refine TWs.cons ?_ ?_ | exact TWs.nil | exact TW.refl))) (Done.trans (Done.thawD 900001 22 1 (.agg [.d (iD 0), .own 1 900000 (List.map iD []), .own 1 900001 (List.map (slD 1 iD) []), .d (.sl 0 (some true) [])]) (by first | rfl | simp [sat]) (by repeat' (first | exact TW.nil | refine TW.tup ?_ | refine TW.aggD ?_ | refine TW.agg ?_ | refine TWs.cons ?_ ?_ | exact TWs.nil | exact TW.refl))) (Done.trans (Done.thawT 900002 2 1 (.agg [.d (iD 0), .own 1 900000 (List.map iD []), .own 1 900001 (List.map (slD 1 iD) []), .own 1 900002 (List.map iD [])]) (by first | rfl | simp [sat]) (by repeat' (first | exact TW.nil | refine TW.tup ?_ | refine TW.aggD ?_ | refine TW.agg ?_ | refine TWs.cons ?_ ?_ | exact TWs.nil | exact TW.refl))) (Done.drops [1, 2, 3, 5, 21, 45] (by simp)))))) (Done.told frd don)
    replace h := inr_some h hb1
    cases h
    exact Done.trans ((Done.trans (Done.move 45 900000 (ob := .tok 2 1 out.length) (by omega) (by omega) (by omega) rfl (by first | rfl | (simp; done) | (simp [sat, smove, sset, skill, sdel, sdels, Ob.ren, Ob.kill, rens_tolds]; done))) (Done.trans (Done.move 21 900001 (ob := .nst 22 1 out_1.length (tolds (List.map (slD 1 iD) out_1))) (by omega) (by omega) (by omega) rfl (by first | rfl | (simp; done) | (simp [sat, smove, sset, skill, sdel, sdels, Ob.ren, Ob.kill, rens_tolds]; done))) (Done.trans (Done.thawT 900002 2 1 (.agg [.d (iD 11), .own 1 900000 (List.map iD out), .own 1 900001 (List.map (slD 1 iD) out_1), .own 1 900002 (List.map iD [])]) (by first | rfl | simp [sat]) (by repeat' (first | exact TW.nil | refine TW.tup ?_ | refine TW.aggD ?_ | refine TW.agg ?_ | refine TWs.cons ?_ ?_ | exact TWs.nil | exact TW.refl))) (Done.drops [1, 2, 3] (by simp)))))) (Done.told frd don)
  cases h
  exact Done.trans ((Done.trans (Done.thawT 900000 2 1 (.agg [.d (iD 0), .own 1 900000 (List.map iD []), .d (.sl 0 (some true) []), .d (.sl 0 (some true) [])]) (by first | rfl | simp [sat]) (by repeat' (first | exact TW.nil | refine TW.tup ?_ | refine TW.aggD ?_ | refine TW.agg ?_ | refine TWs.cons ?_ ?_ | exact TWs.nil | exact TW.refl))) (Done.trans (Done.thawD 900001 22 1 (.agg [.d (iD 0), .own 1 900000 (List.map iD []), .own 1 900001 (List.map (slD 1 iD) []), .d (.sl 0 (some true) [])]) (by first | rfl | simp [sat]) (by repeat' (first | exact TW.nil | refine TW.tup ?_ | refine TW.aggD ?_ | refine TW.agg ?_ | refine TWs.cons ?_ ?_ | exact TWs.nil | exact TW.refl))) (Done.trans (Done.thawT 900002 2 1 (.agg [.d (iD 0), .own 1 900000 (List.map iD []), .own 1 900001 (List.map (slD 1 iD) []), .own 1 900002 (List.map iD [])]) (by first | rfl | simp [sat]) (by repeat' (first | exact TW.nil | refine TW.tup ?_ | refine TW.aggD ?_ | refine TW.agg ?_ | refine TWs.cons ?_ ?_ | exact TWs.nil | exact TW.refl))) (Done.drops [1, 2] (by simp)))))) (Done.told frd don)⟩
def mc22_impl_EqualProof : MCode :=
 (.seq (.reg (sq 4 [bo 4 46 0] ++ sq 8 [.alloc 8 61 [.sl 0 (some true) []], mb false])) (.seq (.reg (sq 13 [la 2 4, mv 1, mv 2, mv 3, cf 76 [13, 14, 15, 16]] ++ sq 12 [mv 17] ++ sq 18 [ex 12 0, ex 12 1] ++ sq 10 [.alloc 10 120 [.sl 0 (some true) [], .sl 0 (some true) []]] ++ s0 (sr 2 10 18) ++ sq 11 [mv 19])) (.seq (.seq (.reg (sq 20 [mv 11, nt 20])) (.cond (t0 21) (.seq (.reg (sq 22 [.build [.sl 0 (some true) []] []] ++ s0 (sr 1 8 22) ++ sq 9 [mb false])) .ret) .skip)) (.seq (.reg (sq 23 [la 2 10, cf 77 [23], .bsln 25 125 4 [(t0 24)], .build [.sl 0 (some true) []] [(0, 1, (t0 25))]] ++ s0 (sr 1 8 26) ++ sq 9 [mb true])) .ret))))
theorem fn22_impl_EqualProof : MFn Tryz.prog 22 mc22_impl_EqualProof 27 [.cell 8 1 true, .tmp 9] := ⟨_, Tryz.func22, by kernel_rfl, Tryz.ntmps22, by kernel_rfl⟩
noncomputable def F_impl_EqualProof (sys : ((List Int) × (List ((List Int) × (List Int))))) (a : (List Int)) (b : (List Int)) (fuel : Int) : Option ((List (Int × (List Int) × (List (List Int)) × (List Int))) × Bool) :=
 (F_impl_ShownBy sys a b fuel).bind fun r =>
 if r.2 = true then
  (F_impl_ChainNode_s1 r.1).bind fun r_1 =>
  some ([r_1], true)
 else
  some ([], false)
instance c_impl_EqualProof {sys : ((List Int) × (List ((List Int) × (List Int))))} {a : (List Int)} {b : (List Int)} {fuel : Int} : HasC (F_impl_EqualProof sys a b fuel) fun rr => ACalls Tryz.prog 22 [.d (.agg [slD 1 iD sys.1, slD 2 D_impl_Rule sys.2]), .d (slD 1 iD a), .d (slD 1 iD b), .d (iD fuel)] [] 0 fun xx ss => xx = .tup [.agg [.own 4 900000 (List.map D_impl_Node rr.1)], .d (bD rr.2)] ∧ ss = [(900000, .nst 125 4 rr.1.length (tolds (List.map D_impl_Node rr.1)))] := ⟨@fun rr h => by
  delta F_impl_EqualProof at h
  refine fn22_impl_EqualProof.callsD (vcm_sound ?_)
  delta mc22_impl_EqualProof
  refine stp ?_
  refine rCN h fun r hr h => ?_
  refine it h (fun hc h => ?_) fun hc h => ?_
  · refine rCo [] [(900000, 24), (900001, 200000), (900002, 200001)] h fun r_1 hr_1 h => ?_
    refine nds ?_
    cases h
    exact Done.trans ((Done.trans (Done.absorbL 25 24 1 rfl rfl (by omega) (by decide) (Whole.flat (t := 2) (n := r_1.2.1.length) (by first | rfl | (simp [sat, smove, sset, skill, sdel, sdels, Ob.ren, Ob.kill, rens_tolds]; done)) (by simp))) (Done.trans (Done.drops [24] (by simp)) (Done.trans (Done.absorbL 25 200000 2 rfl rfl (by omega) (by decide) (Whole.deep (t := 22) (n := r_1.2.2.1.length) (by first | rfl | (simp [sat, smove, sset, skill, sdel, sdels, Ob.ren, Ob.kill, rens_tolds]; done)) (by simp))) (Done.trans (Done.drops [200000] (by simp)) (Done.trans (Done.absorbL 25 200001 3 rfl rfl (by omega) (by decide) (Whole.flat (t := 2) (n := r_1.2.2.2.length) (by first | rfl | (simp [sat, smove, sset, skill, sdel, sdels, Ob.ren, Ob.kill, rens_tolds]; done)) (by simp))) (Done.trans (Done.drops [200001] (by simp)) (Done.trans (Done.nstE 25 (tolds (List.map D_impl_Node [r_1])) rfl (by first | rfl | (rw [List.map_append, tolds_append]; rfl) | (simp only [go_sem, AV.rens, AV.ren, List.map_append, tolds_append]; first | done | rfl))) (Done.trans (Done.move 25 900000 (ob := .nst 125 4 1 (tolds (List.map D_impl_Node [r_1]))) (by omega) (by omega) (by omega) rfl (by first | rfl | (simp; done) | (simp [sat, smove, sset, skill, sdel, sdels, Ob.ren, Ob.kill, rens_tolds]; done))) (Done.drops [4, 8, 10] (by simp))))))))))) (Done.told frd don)
  cases h
  exact Done.trans ((Done.trans (Done.thawD 900000 125 4 (.tup [.agg [.own 4 900000 (List.map D_impl_Node [])], .d (bD false)]) (by first | rfl | simp [sat]) (by repeat' (first | exact TW.nil | refine TW.tup ?_ | refine TW.aggD ?_ | refine TW.agg ?_ | refine TWs.cons ?_ ?_ | exact TWs.nil | exact TW.refl))) (Done.drops [4, 8, 10] (by simp)))) (Done.told frd don)⟩
end Go.Proofs.YtklfjpilhbkekaaGreat
namespace Abx
open Go
theorem ACalls.eq {P : Program} {f : Nat} {args : List AV} {s : Sto} {k : Nat} {y y' : AV} {t t' : Sto} (h : ACalls P f args s k fun x s' => x = y ∧ s' = t) (hy : y = y') (ht : t = t') :
    ACalls P f args s k fun x s' => x = y' ∧ s' = t' := by subst hy; subst ht; exact h
mutual
inductive Pub (tl : List (Nat × Nat × List D)) : AV → D → Prop
  | lit {u : Value} : Pub tl (.d (.lit u)) (.lit u)
  | gow {e id n : Nat} {ds : List D} (h : WholeP (toks tl) id e ds) (hn : n = ds.length) : Pub tl (.gow e id n) (.sl e none ds)
  | agg {xs : List AV} {ds : List D} (h : Pubs tl xs ds) : Pub tl (.agg xs) (.agg ds)
inductive Pubs (tl : List (Nat × Nat × List D)) : List AV → List D → Prop
  | nil : Pubs tl [] []
  | cons {x : AV} {a : D} {xs : List AV} {ds : List D} (h : Pub tl x a) (hs : Pubs tl xs ds) : Pubs tl (x :: xs) (a :: ds)
end
mutual
theorem Pub.ok {C : Ctx} {β β2 : Beta} {tl : List (Nat × Nat × List D)} {w : World} (h : Inv C β (toks tl) w) : ∀ {x : AV} {a : D} {v : Value}, Pub tl x a → AV.ok β (C.forb β (toks tl)) w x v → D.ok C.O w a v
  | _, _, v, .lit, hv => by simp only [AV.ok, D.ok] at hv ⊢; exact hv
  | _, _, v, .gow hw hn, hv => lent_tok h hw hn hv
  | _, _, v, .agg hl, hv => by
    simp only [AV.ok] at hv
    obtain ⟨vs, rfl, h1, h2⟩ := hv
    simp only [D.ok]
    exact ⟨vs, rfl, Pubs.oks (β2 := β2) h hl h1 h2⟩
theorem Pubs.oks {C : Ctx} {β β2 : Beta} {tl : List (Nat × Nat × List D)} {w : World} (h : Inv C β (toks tl) w) : ∀ {xs : List AV} {ds : List D} {vs : List Value}, Pubs tl xs ds → (∀ u ∈ vs, one u = true) → AV.oks β (C.forb β (toks tl)) w xs vs → D.oks C.O w ds vs
  | _, _, vs, .nil, _, hv => by simpa [AV.oks, D.oks] using hv
  | _, _, vs, .cons hl hs, h1, hv => by
    simp only [AV.oks] at hv
    obtain ⟨v, r, rfl, h2, h3⟩ := hv
    simp only [D.oks]
    exact ⟨v, r, rfl, h1 v (by simp), Pub.ok (β2 := β2) h hl h2, Pubs.oks (β2 := β2) h hs (fun u hu => h1 u (by simp [hu])) h3⟩
end
theorem ACalls.pub {P : Program} {f : Nat} {dz : List D} {y : AV} {t : Sto} {tl : List (Nat × Nat × List D)} {r : D} (hc : ACalls P f (dz.map .d) [] 0 fun x s' => x = y ∧ s' = t) (ht : t = toks tl) (hp : Pub tl y r) : PFun P f dz r := fun C vs hs hk hinv hargs => by
  subst ht
  refine (hc C vs hs hk hinv hargs).mono ?_
  rintro e w' ⟨v, x, β', s', rfl, hi, hx, rfl, rfl⟩
  refine ⟨v, .d r, fun _ => .no, [], rfl, ⟨hi.size, hi.io, hi.keep, hi.blks, fun b o ⟨id, h⟩ => h.elim, fun id b h => h.elim, fun id hid => by omega, hi.low, fun id => rfl, fun i j b h => h.elim⟩, ?_, rfl⟩
  have h1 := Pub.ok (β2 := β') hi hp hx
  simp only [AV.ok]
  exact D.ok_mono (fun b o v hc hn => ⟨hc, fun h => hn (h.elim (fun h => h) fun ⟨_, h⟩ => h.elim)⟩) r v h1
theorem Pub.tok {α : Type} {f : α → D} {e n id : Nat} {xs : List α} {tl : List (Nat × Nat × List D)} [Cel f e] [Cl f] (h : sat (toks tl) id = .prv e n (tolds (xs.map f))) (hn : n = xs.length) : Pub tl (.gow e id n) (slD e f xs) :=
  .gow (WholeP.of h hn) (by rw [hn, List.length_map])
theorem told_flat {α : Type} {f : α → D} [LitF f] : ∀ xs : List α, List.map (aD f) xs = tolds (xs.map f)
  | [] => rfl
  | x :: xs => by
    rw [List.map_cons, List.map_cons, tolds_cons, told_flat xs]
    have := LitF.lit (f := f) x
    cases h : f x with
    | lit u => simp only [dcells, List.map_cons, List.map_nil, toldC, aD, h]; rfl
    | _ => rw [h] at this; cases this
theorem set_getD21 {α : Type} [Inhabited α] {f : α → D} [Cel f 1] {xs : List α} {y : α} {i : Nat} {x : AV} (hi : i < xs.length) : ((tolds ((xs.set i y).map f)).set i x).getD i .junk = x := by
  have := set_getD2 (f := f) (e := 1) (k := 0) (xs := xs) (y := y) (x := x) hi (by decide)
  simpa using this
attribute [go_sem] set_getD21
theorem sat_hit {i : Nat} {o : Ob} {s : Sto} : sat ((i, o) :: s) i = o := by simp [sat]
theorem sat_miss {i j : Nat} {o : Ob} {s : Sto} (h : j ≠ i) : sat ((i, o) :: s) j = sat s j := by simp [sat, h]
theorem sat_nil {j : Nat} : sat [] j = .dead := rfl
theorem sset_hit {i : Nat} {o x : Ob} {s : Sto} : sset ((i, o) :: s) i x = (i, x) :: s := by simp [sset]
theorem sset_lt {i j : Nat} {o x : Ob} {s : Sto} (h : i < j) : sset ((j, o) :: s) i x = (i, x) :: (j, o) :: s := by simp [sset, h, Nat.ne_of_lt h]
theorem sset_gt {i j : Nat} {o x : Ob} {s : Sto} (h : j < i) : sset ((j, o) :: s) i x = (j, o) :: sset s i x := by simp [sset, Nat.ne_of_gt h, Nat.not_lt_of_gt h]
theorem sset_nil {i : Nat} {x : Ob} : sset [] i x = [(i, x)] := rfl
attribute [go_sem] sat_hit sat_miss sat_nil sset_hit sset_lt sset_gt sset_nil
end Abx
