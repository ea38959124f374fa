/- The layer, last part: what is absorbed, lent and made public; nothing is assumed. -/
import Derived.Test.YtklfjpilhbkekaaGreatZshal
import Derived.Test.YtklfjpilhbkekaaGreatZb
set_option linter.all false
namespace Abx
open Go
theorem y0.absorbA {k : Nat} {env : List AV} {s : j9} (id id' q : Nat) {pre0 L : List AV} {t e n e' : Nat} {xs' : List D} (hs : sat s id = .nst t e n (pre0 ++ L)) (hq : L[q]? = some (.own e' id' xs'))
 (hk : k <= id') (hne : id ≠ id') (hw : q6f s id' e' xs') :
 y0 k env s (AV.rens (y8 id') env) (j8 (p8 id' s) id (.nst t e n (AV.rens (y8 id') pre0 ++ (AV.rens (y8 id') L).set q (.dp (.sl e' none xs'))))) := by
 obtain ⟨h1, h2, h3⟩ := k6i (y := AV.dp (.sl e' none xs')) hq
 have h4 : (AV.rens (y8 id') L).set q (.dp (.sl e' none xs')) = AV.rens (y8 id') (L.take q) ++ .dp (.sl e' none xs') :: AV.rens (y8 id') (L.drop (q + 1)) := by
  have e1 := congrArg (AV.rens (y8 id')) h2
  rw [k0i, r5q] at e1
  simpa [AV.rens, AV.ren] using e1
 have := y0.absorb (env := env) id id' (pre0 ++ L.take q) (L.drop (q + 1)) hs (by
  conv => lhs; rw [h1]
  rw [laa]) hk hne hw
 rw [r5q, laa, <- h4] at this
 exact this
attribute [go_sem] List.set_cons_zero List.set_cons_succ
def TW (nid : Nat) (x y : AV) : Prop := ∀ (β : x5) (O : Own) (w : World) (v : Value), (β nid).at (.slice none 0 0) 0 -> AV.ok β O w x v -> AV.ok β O w y v
def TWs (nid : Nat) (xs ys : List AV) : Prop := ∀ (β : x5) (O : Own) (w : World) (vs : List Value), (β nid).at (.slice none 0 0) 0 -> AV.oks β O w xs vs -> AV.oks β O w ys vs
theorem TW.refl {nid : Nat} {x : AV} : TW nid x x := fun _ _ _ _ _ h => h
theorem TWs.nil {nid : Nat} : TWs nid [] [] := fun _ _ _ _ _ h => h
theorem TWs.cons {nid : Nat} {x y : AV} {xs ys : List AV} (h : TW nid x y) (hs : TWs nid xs ys) : TWs nid (x :: xs) (y :: ys) := fun β O w vs hb hv => by
 simp only [AV.oks] at hv ⊢
 obtain ⟨v, r, h1, h2, h3⟩ := hv
 exact ⟨v, r, h1, h β O w v hb h2, hs β O w r hb h3⟩
theorem TW.nil {nid e e0 : Nat} : TW nid (.d (.sl e0 (some true) [])) (.own e nid []) := fun β O w v hb hv => by
 simp only [AV.ok] at hv ⊢
 have := k5v hv
 subst this
 simp only [D.ok]
 exact ⟨⟨none, 0, rfl, ⟨Nat.le_refl _, by omega⟩, trivial, .inl trivial⟩, _, 0, hb, Nat.le_refl _, fun _ => rfl⟩
theorem TW.tup {nid : Nat} {xs ys : List AV} (h : TWs nid xs ys) : TW nid (.tup xs) (.tup ys) := fun β O w v hb hv => by
 simp only [AV.ok] at hv ⊢
 obtain ⟨vs, h1, h2⟩ := hv
 exact ⟨vs, h1, h β O w _ hb h2⟩
theorem TW.agg {nid : Nat} {xs ys : List AV} (h : TWs nid xs ys) : TW nid (.agg xs) (.agg ys) := fun β O w v hb hv => by
 simp only [AV.ok] at hv ⊢
 obtain ⟨vs, h1, h0, h2⟩ := hv
 exact ⟨vs, h1, h0, h β O w _ hb h2⟩
theorem TW.aggD {nid : Nat} {ds : List D} {ys : List AV} (h : TWs nid (ds.map .d) ys) : TW nid (.d (.agg ds)) (.agg ys) := fun β O w v hb hv => by
 have hm : ∀ (ds : List D) (vs : List Value), D.oks O w ds vs -> AV.oks β O w (ds.map .d) vs := fun ds => by
  induction ds with
  | nil => intro vs h; simpa [D.oks, AV.oks] using h
  | cons d ds ih =>
   intro vs h
   simp only [D.oks] at h
   obtain ⟨v, r, h1, _, h2, h3⟩ := h
   simp only [List.map_cons, AV.oks]
   exact ⟨v, r, h1, by simpa only [AV.ok] using h2, ih r h3⟩
 simp only [AV.ok, D.ok] at hv ⊢
 obtain ⟨vs, h1, h2⟩ := hv
 exact ⟨vs, h1, k4z h2, h β O w _ hb (hm _ _ h2)⟩
theorem x9.thawT {k : Nat} {x : AV} {s : j9} (nid t e : Nat) (y : AV) (hd : sat s nid = .dead) (hxy : TW nid x y) : x9 k x s y (j8 s nid (.tok t e 0)) := fun C β w v _ hi hx => by
 obtain ⟨h1, m⟩ := St.tokNil (env := []) (a := { tmps := #[], defers := [] }) (t := t) (e := e) ⟨.nil, hi, rfl, fun i x hx => by simp at hx⟩ hd
 exact ⟨_, h1.inv, hxy _ _ _ _ (by simp [bset, w4q.at, q4f]) (m.ok hx)⟩
theorem x9.thawD {k : Nat} {x : AV} {s : j9} (nid t e : Nat) (y : AV) (hd : sat s nid = .dead) (hxy : TW nid x y) : x9 k x s y (j8 s nid (.nst t e 0 [])) := fun C β w v _ hi hx => by
 obtain ⟨β', h1, h2, h3⟩ := St.thawN (env := []) (a := { tmps := #[], defers := [] }) ⟨.nil, hi, rfl, fun i x hx => by simp at hx⟩ t e hd
 refine ⟨β', h1.inv, hxy _ _ _ _ ?_ (h2 x v hx)⟩
 simp only [AV.ok] at h3
 obtain ⟨_, u, n, h4, h5, h6⟩ := h3
 have hob := h1.inv.obs nid
 rw [u5, if_pos rfl] at hob
 obtain ⟨u', bs, k1, _⟩ := hob
 rw [k1] at h4 ⊢
 obtain ⟨rfl, rfl⟩ := h4
 rw [h6 rfl]
 exact ⟨rfl, rfl⟩
theorem x9.absorbA {k : Nat} {x : AV} {s : j9} (id id' q : Nat) {pre0 L : List AV} {t e n e' : Nat} {xs' : List D} (hs : sat s id = .nst t e n (pre0 ++ L)) (hq : L[q]? = some (.own e' id' xs'))
 (hk : k <= id') (hne : id ≠ id') (hw : q6f s id' e' xs') :
 x9 k x s (x.ren (y8 id')) (j8 (p8 id' s) id (.nst t e n (AV.rens (y8 id') pre0 ++ (AV.rens (y8 id') L).set q (.dp (.sl e' none xs'))))) :=
 x9.of_weak (by have := y0.absorbA (env := [x]) id id' q hs hq hk hne hw; simpa only [AV.rens] using this)
theorem x9.nstE {k : Nat} {x : AV} {s : j9} (id : Nat) {t e n : Nat} {cs : List AV} (cs' : List AV) (hs : sat s id = .nst t e n cs) (h : cs = cs') : x9 k x s x (j8 s id (.nst t e n cs')) :=
 x9.of_weak (y0.nstE id cs' hs h)
theorem x1o : k3d [] = true := (rfl)
theorem y6u {x : D} {xs : List AV} : k3d (.d x :: xs) = k3d xs := (rfl)
theorem x1p {e id : Nat} {ds : List D} {xs : List AV} : k3d (.own e id ds :: xs) = k3d xs := (rfl)
theorem x1n {e id n : Nat} {xs : List AV} : k3d (.gow e id n :: xs) = k3d xs := (rfl)
attribute [go_sem] x1o y6u x1p x1n
theorem z4c {xs : List AV} : k1i xs xs ↔ True := ⟨fun _ => trivial, fun _ => k1i.refl xs⟩
attribute [go_sem] z4c ne_eq not_false_eq_true
theorem k0j {ρ : Nat -> Option Nat} {xs : List AV} {n : Nat} : AV.rens ρ (xs.take n) = (AV.rens ρ xs).take n := by simp only [s6, List.map_take]
theorem k0h {ρ : Nat -> Option Nat} {xs : List AV} {n : Nat} : AV.rens ρ (xs.drop n) = (AV.rens ρ xs).drop n := by simp only [s6, List.map_drop]
attribute [go_sem] k0j k0h
theorem Inv.prv_len {C : Ctx} {β : x5} {s : j9} {w : World} (h : Inv C β s w) {id e n : Nat} {xs : List D} (hs : sat s id = .prv e n (j7 xs)) (he : ∀ x ∈ xs, (z6 x).length = e) (h0 : 0 < e) : n = xs.length := by
 have ho := h.obs id
 rw [hs] at ho
 obtain ⟨u, bs, _, _, hl, _⟩ := ho
 rw [k0r he] at hl
 exact (Nat.eq_of_mul_eq_mul_right h0 hl).symm
section
variable {α γ : Type} [Inhabited α] {f : α -> D} {f' : γ -> D} {e e' n k0 : Nat} {s : j9} {env : List AV} {xs : List α} {y y' : α} {ys : List γ} {i k : Nat}
theorem z0c (hi : i < xs.length) : xs.set i (xs.getD i default) = xs := by
 rw [lgd, List.getElem?_eq_getElem hi]
 exact List.set_getElem_self hi
theorem q9x (hi : i < xs.length) : (xs.set i y).getD i default = y := by
 rw [lgd, List.getElem?_set_self hi]; rfl
theorem x2p [Cel f e] (hi : i < xs.length) (hk : k < e) : (j7 ((xs.set i y).map f))[i * e + k]? = some (q5r ((z6 (f y)).getD k .any)) := by
 have := x9p (f := f) (e := e) (xs := xs.set i y) (i := i) (k := k) (by simpa using hi) hk
 rwa [q9x hi] at this
theorem k8b [Cel f e] {d : D} (hi : i < xs.length) (hk : k < e) (h : (z6 (f y)).set k d = z6 (f y')) :
 (j7 ((xs.set i y).map f)).set (i * e + k) (q5r d) = j7 ((xs.set i y').map f) := by
 rw [j6l (xs := xs.set i y) (y := y') (by simpa using hi) hk (by rw [q9x hi]; exact h), List.set_set]
theorem z3m [Cel f e] {d : D} {x : AV} {m m' : Nat} (hi : i < xs.length) (hk : k < e) (hm : m = i * e + k) (hm' : m' = m + 1) (hx : x = q5r d) (h : (z6 (f y)).set k d = z6 (f y')) :
 (j7 ((xs.set i y).map f)).take m ++ [x] ++ (j7 ((xs.set i y).map f)).drop m' = j7 ((xs.set i y').map f) := by
 subst hm; subst hm'; subst hx
 rw [x2b (by rw [k4b, List.length_set]; exact z7d hi hk), k8b hi hk h]
theorem k0p [Cel f e] {L : List AV} {m m' : Nat} (hi : i < xs.length) (hm : m = i * e) (hm' : m' = i * e + e) (hL : L = (z6 (f y)).map q5r) :
 (j7 (xs.map f)).take m ++ L ++ (j7 (xs.map f)).drop m' = j7 ((xs.set i y).map f) := by
 subst hm; subst hm'; subst hL
 have h1 := k5o Cel.len xs i 0 hi (Nat.zero_le e) (f := f)
 have h2 := q9z Cel.len xs i e hi (Nat.le_refl e) (f := f)
 rw [k2g, k2g, <- List.map_take, <- List.map_drop, h2]
 rw [Nat.add_zero] at h1
 rw [h1, List.take_zero, List.append_nil, List.drop_of_length_le (by rw [Cel.len]; exact Nat.le_refl _), List.nil_append, List.set_eq_take_append_cons_drop, if_pos hi, q2m, f7q]
 simp only [List.map_append, laa]
theorem z2y [Cel f e] {x : AV} (hi : i < xs.length) (hk : k < e) : ((j7 ((xs.set i y).map f)).set (i * e + k) x).getD (i * e + k) .junk = x := by
 rw [lgd, List.getElem?_set, if_pos rfl, if_pos (by rw [k4b, List.length_set]; exact z7d hi hk)]; rfl
theorem j1a [Cel f e] {x : AV} (hi : i < xs.length) (hk : 0 < e) : ((j7 ((xs.set i y).map f)).set (i * e) x).getD (i * e) .junk = x := z2y (k := 0) hi hk
theorem y0.extC [Cel f e] [Cel f' e'] [Cl f'] (id c i k : Nat) {m : Nat} (hs : sat s id = .prv e n (j7 ((xs.set i y).map f))) (hi : i < xs.length) (hk : k < e) (hm : m = i * e + k) (hy : (z6 (f y)).getD k .any = z7 e' f' ys)
 (hd : sat s c = .dead) (hc : k0 <= c) :
 y0 k0 env s env (j8 (j8 s c (.prv e' ys.length (j7 (ys.map f')))) id (.prv e n ((j7 ((xs.set i y).map f)).set m (.gow e' c ys.length)))) := by
 subst hm
 have h1 := x2p (f := f) (e := e) (xs := xs) (y := y) hi hk
 rw [hy] at h1
 have := y0.extract (env := env) (k := k0) id c (i * e + k) hs h1 hd hc i2q.1 i2q.2
 simpa only [List.length_map] using this
theorem y0.absC [Cel f e] [Cel f' e'] [Cl f'] (id c i k : Nat) {m q q' : Nat} (hs : sat s id = .prv e n ((j7 ((xs.set i y).map f)).set m (.gow e' c q))) (hcs : sat s c = .prv e' q' (j7 (ys.map f'))) (hq : q = q')
 (hi : i < xs.length) (hk : k < e) (hm : m = i * e + k) (h0 : 0 < e') (h : (z6 (f y)).set k (z7 e' f' ys) = z6 (f y')) (hc : k0 <= c) (hne : id ≠ c) :
 y0 k0 env s (AV.rens (y8 c) env) (j8 (k3f c s) id (.prv e n (j7 ((xs.set i y').map f)))) := fun C β a w hC hst => by
 subst hC; subst hm; subst hq
 have hlen := hst.inv.prv_len hcs i2q.1 h0
 rw [List.length_map] at hlen
 subst hlen
 have hj : ((j7 ((xs.set i y).map f)).set (i * e + k) (.gow e' c ys.length))[i * e + k]? = some (.gow e' c (ys.map f').length) := by
  rw [List.getElem?_set, if_pos rfl, if_pos (by rw [k4b, List.length_set]; exact z7d hi hk), List.length_map]
 obtain ⟨β', h2⟩ := hst.absorbP hne hc hs hj (q5k.of hcs rfl)
 have hcs' : (AV.rens (y8 c) ((j7 ((xs.set i y).map f)).set (i * e + k) (.gow e' c ys.length))).set (i * e + k) (.dp (.sl e' none (ys.map f'))) = j7 ((xs.set i y').map f) := by
  rw [k0i, m8, List.set_set]
  exact k8b hi hk h
 rw [hcs'] at h2
 have hsat : ∀ q, sat (j8 (k3f c s) id (.prv e n (j7 ((xs.set i y').map f)))) q = sat (j8 (p8 c s) id (.prv e n (j7 ((xs.set i y').map f)))) q := fun q => by
  rw [u5, u5, k0k]
 obtain ⟨g1, g2⟩ := h2.inv.told (s' := j8 (k3f c s) id (.prv e n (j7 ((xs.set i y').map f)))) fun q => by rw [hsat]; exact k7b.refl _
 exact ⟨β', h2.defers, g1, h2.len, fun j x hx => by rw [g2]; exact h2.env j x hx⟩
theorem y0.absSeg [Cel f' e'] [Cl f'] (id c q : Nat) {A L B : List AV} {m m' : Nat} (hs : sat s id = .prv e n (A ++ L ++ B)) (hq : L[q]? = some (.gow e' c m)) (hcs : sat s c = .prv e' m' (j7 (ys.map f'))) (hm : m = m') (h0 : 0 < e')
 (hc : k0 <= c) (hne : id ≠ c) :
 y0 k0 env s (AV.rens (y8 c) env) (j8 (p8 c s) id (.prv e n (AV.rens (y8 c) A ++ (AV.rens (y8 c) L).set q (.dp (z7 e' f' ys)) ++ AV.rens (y8 c) B))) := fun C β a w hC hst => by
 subst hC; subst hm
 have hlen := hst.inv.prv_len hcs i2q.1 h0
 rw [List.length_map] at hlen
 subst hlen
 have hqL : q < L.length := (List.getElem?_eq_some_iff.1 hq).1
 have hj : (A ++ L ++ B)[A.length + q]? = some (.gow e' c (ys.map f').length) := by
  rw [laa, List.getElem?_append_right (by omega), Nat.add_sub_cancel_left, List.getElem?_append_left hqL, hq, List.length_map]
 obtain ⟨β', h2⟩ := hst.absorbP hne hc hs hj (q5k.of hcs rfl)
 refine ⟨β', ?_⟩
 have : (AV.rens (y8 c) (A ++ L ++ B)).set (A.length + q) (.dp (.sl e' none (ys.map f'))) = AV.rens (y8 c) A ++ (AV.rens (y8 c) L).set q (.dp (z7 e' f' ys)) ++ AV.rens (y8 c) B := by
  rw [r5q, r5q, laa, laa, List.set_append, if_neg (by rw [j5q]; omega), j5q, Nat.add_sub_cancel_left, List.set_append, if_pos (by rw [j5q]; exact hqL)]
  rfl
 rw [this] at h2
 exact h2
end
attribute [go_sem] z2y j1a k4b
theorem y0.prvZ {α : Type} {f : α -> D} {e n m k0 id : Nat} {s : j9} {env : List AV} {z : List AV} (x0 : α) (hs : sat s id = .prv e n ((List.replicate m z).flatten)) (h : k1i z ((z6 (f x0)).map q5r)) :
 y0 k0 env s env (j8 s id (.prv e n (j7 ((List.replicate m x0).map f)))) :=
 y0.prvLe id _ hs (by rw [List.map_replicate]; exact k1i.rep h m)
end Abx
namespace Go.Proofs.YtklfjpilhbkekaaGreat
open Go Abx
attribute [local irreducible] vcm vgo vdr q3o q0n MWp p5q BrC BrO BrG BrD BrH z0s a3q q3y drQ w8 e2q
set_option maxHeartbeats 4000000
instance : Cl v7 := Cl.agg _ (fun _ => rfl) (fun _ => rfl)
instance : Cl q4k := Cl.agg _ (fun _ => rfl) (fun _ => rfl)
instance : Cl q4j := Cl.agg _ (fun _ => rfl) (fun _ => rfl)
instance : Cl q5u := Cl.agg _ (fun _ => rfl) (fun _ => rfl)
noncomputable def n7 (s : q7) : Option q7 :=
 x5v s (
  some []) (
  if (0 + s.length) * 8 <= 140737488355328 then
   some s
  else none)
instance k2y {s : q7} : y3 (n7 s) fun rr => x6 Tryz.prog 121 [.d (z7 1 iD s)] [] 0 fun xx ss => xx = .own 1 900000 (List.map iD rr) /\ ss = [(900000, .tok 2 1 rr.length)] := ⟨@fun rr h => by
 delta n7 at h
 refine y1x.callsD (q6 ?_)
 delta x8c
 refine v5 ?_
 have h1 := k8m h
 refine z0s.of (fun he => ?_) ?_
 ·replace h := h1.1 (by simpa using he)
  clear h1
  refine v5 ?_
  cases h
  exact x9.trans ((x9.thawT 900000 2 1 (.own 1 900000 (List.map iD [])) (by first | rfl | simp [sat]) (by repeat' (first | exact TW.nil | refine TW.tup ?_ | refine TW.aggD ?_ | refine TW.agg ?_ | refine TWs.cons ?_ ?_ | exact TWs.nil | exact TW.refl)))) (x9.told frd don)
 ·replace h := h1.2
  clear h1
  refine v5 ?_
  refine ndI h fun hp h => ?_
  cases h
  exact x9.trans ((x9.move 5 900000 (ob := .tok 2 1 s.length) (by omega) (by omega) (by omega) rfl (by first | rfl | (simp; done) | (simp [sat, q0m, j8, p8, k3f, k0m, Ob.ren, Ob.kill, m8]; done)))) (x9.told frd don)⟩
end Go.Proofs.YtklfjpilhbkekaaGreat
namespace Abx
open Go
theorem x6.eq {P : Program} {f : Nat} {args : List AV} {s : j9} {k : Nat} {y y' : AV} {t t' : j9} (h : x6 P f args s k fun x s' => x = y /\ s' = t) (hy : y = y') (ht : t = t') :
 x6 P f args s k fun x s' => x = y' /\ s' = t' := by subst hy; subst ht; exact h
mutual
inductive Pub (tl : List (Nat × Nat × List D)) : AV -> D -> Prop
 | lit {u : Value} : Pub tl (.d (.lit u)) (.lit u)
 | gow {e id n : Nat} {ds : List D} (h : q5k (q5m tl) id e ds) (hn : n = ds.length) : Pub tl (.gow e id n) (.sl e none ds)
 | agg {xs : List AV} {ds : List D} (h : x3j tl xs ds) : Pub tl (.agg xs) (.agg ds)
inductive x3j (tl : List (Nat × Nat × List D)) : List AV -> List D -> Prop
 | nil : x3j tl [] []
 | cons {x : AV} {a : D} {xs : List AV} {ds : List D} (h : Pub tl x a) (hs : x3j tl xs ds) : x3j tl (x :: xs) (a :: ds)
end
mutual
theorem Pub.ok {C : Ctx} {β β2 : x5} {tl : List (Nat × Nat × List D)} {w : World} (h : Inv C β (q5m tl) w) : ∀ {x : AV} {a : D} {v : Value}, Pub tl x a -> AV.ok β (C.forb β (q5m tl)) w x v -> D.ok C.O w a v
 | _, _, v, .lit, hv => by simp only [AV.ok, D.ok] at hv ⊢; exact hv
 | _, _, v, .gow hw hn, hv => z7i h hw hn hv
 | _, _, v, .agg hl, hv => by
  simp only [AV.ok] at hv
  obtain ⟨vs, rfl, h1, h2⟩ := hv
  simp only [D.ok]
  exact ⟨vs, rfl, x3j.oks (β2 := β2) h hl h1 h2⟩
theorem x3j.oks {C : Ctx} {β β2 : x5} {tl : List (Nat × Nat × List D)} {w : World} (h : Inv C β (q5m tl) w) : ∀ {xs : List AV} {ds : List D} {vs : List Value}, x3j tl xs ds -> (∀ u ∈ vs, one u = true) -> AV.oks β (C.forb β (q5m tl)) w xs vs -> D.oks C.O w ds vs
 | _, _, vs, .nil, _, hv => by simpa [AV.oks, D.oks] using hv
 | _, _, vs, .cons hl hs, h1, hv => by
  simp only [AV.oks] at hv
  obtain ⟨v, r, rfl, h2, h3⟩ := hv
  simp only [D.oks]
  exact ⟨v, r, rfl, h1 v (by simp), Pub.ok (β2 := β2) h hl h2, x3j.oks (β2 := β2) h hs (fun u hu => h1 u (by simp [hu])) h3⟩
end
theorem x6.pub {P : Program} {f : Nat} {dz : List D} {y : AV} {t : j9} {tl : List (Nat × Nat × List D)} {r : D} (hc : x6 P f (dz.map .d) [] 0 fun x s' => x = y /\ s' = t) (ht : t = q5m tl) (hp : Pub tl y r) : p7 P f dz r := fun C vs hs hk hinv hargs => by
 subst ht
 refine (hc C vs hs hk hinv hargs).mono ?_
 rintro e w' ⟨v, x, β', s', rfl, hi, hx, rfl, rfl⟩
 refine ⟨v, .d r, fun _ => .no, [], rfl, ⟨hi.size, hi.io, hi.keep, hi.blks, fun b o ⟨id, h⟩ => h.elim, fun id b h => h.elim, fun id hid => by omega, hi.low, fun id => rfl, fun i j b h => h.elim⟩, ?_, rfl⟩
 have h1 := Pub.ok (β2 := β') hi hp hx
 simp only [AV.ok]
 exact D.ok_mono (fun b o v hc hn => ⟨hc, fun h => hn (h.elim (fun h => h) fun ⟨_, h⟩ => h.elim)⟩) r v h1
theorem Pub.tok {α : Type} {f : α -> D} {e n id : Nat} {xs : List α} {tl : List (Nat × Nat × List D)} [Cel f e] [Cl f] (h : sat (q5m tl) id = .prv e n (j7 (xs.map f))) (hn : n = xs.length) : Pub tl (.gow e id n) (z7 e f xs) :=
 .gow (q5k.of h hn) (by rw [hn, List.length_map])
theorem z3l {α : Type} {f : α -> D} [x3h f] : ∀ xs : List α, List.map (aD f) xs = j7 (xs.map f)
 | [] => rfl
 | x :: xs => by
  rw [List.map_cons, List.map_cons, q7i, z3l xs]
  have := x3h.lit (f := f) x
  cases h : f x with
  | lit u => simp only [z6, List.map_cons, List.map_nil, q5r, aD, h]; rfl
  | _ => rw [h] at this; cases this
theorem x9h {i : Nat} {o : Ob} {s : j9} : sat ((i, o) :: s) i = o := by simp [sat]
theorem x2a {i j : Nat} {o : Ob} {s : j9} (h : j ≠ i) : sat ((i, o) :: s) j = sat s j := by simp [sat, h]
theorem x9i {j : Nat} : sat [] j = .dead := rfl
theorem x2k {i : Nat} {o x : Ob} {s : j9} : j8 ((i, o) :: s) i x = (i, x) :: s := by simp [j8]
theorem x9n {i j : Nat} {o x : Ob} {s : j9} (h : i < j) : j8 ((j, o) :: s) i x = (i, x) :: (j, o) :: s := by simp [j8, h, Nat.ne_of_lt h]
theorem x9m {i j : Nat} {o x : Ob} {s : j9} (h : j < i) : j8 ((j, o) :: s) i x = (j, o) :: j8 s i x := by simp [j8, Nat.ne_of_gt h, Nat.not_lt_of_gt h]
theorem x2l {i : Nat} {x : Ob} : j8 [] i x = [(i, x)] := rfl
attribute [go_sem] x9h x2a x9i x2k x9n x9m x2l
end Abx
namespace Abx
open Go
theorem z4i {P : Program} {k0 f : Nat} {args env : List AV} {s : j9} {d : Option Nat} {R : List AV -> j9 -> Prop} (o j id t e : Nat) {e0 t' : Nat} {cs : List AV} (hd : sat s id = .dead)
 (ho : sat s o = .obj t' cs) (hj : cs[j]? = some (.d (.sl e0 (some true) []))) (h : a3q P k0 f args env (j8 (j8 s id (.nst t e 0 [])) o (.obj t' (cs.set j (.own e id [])))) d R) :
 a3q P k0 f args env s d R := fun C β a w vs hC hst hvs => by
 have hoi : o ≠ id := fun h => by rw [h, hd] at ho; cases ho
 obtain ⟨β', h1, h2, h3⟩ := hst.thawN t e hd
 have h4 := h1.retell (o := o) (t := t') (cs := cs) (cs' := cs.set j (.own e id [])) (by rw [u5, if_neg hoi, ho]) fun vs hv => by
  rw [AV.oks_iff] at hv ⊢
  refine ⟨by rw [hv.1, List.length_set], fun q x v hx hvq => ?_⟩
  rw [List.getElem?_set] at hx
  split at hx
  ·rename_i hq
   subst hq
   split at hx
   ·cases hx
    have h5 := hv.2 j _ v hj hvq
    simp only [AV.ok] at h5
    rw [k5v h5]
    exact h3
   ·cases hx
  ·exact hv.2 q x v hx hvq
 have hf : C.forb β' (j8 (j8 s id (.nst t e 0 [])) o (.obj t' (cs.set j (.own e id [])))) = C.forb β' (j8 s id (.nst t e 0 [])) := by
  funext b q
  refine propext (or_congr Iff.rfl ?_)
  unfold own
  refine exists_congr fun i => ?_
  rw [u5]
  by_cases hio : i = o
  ·subst hio; rw [if_pos rfl, u5, if_neg hoi, ho]
  ·rw [if_neg hio]
 refine h C _ a w vs hC h4 ?_
 rw [hf]
 rw [AV.oks_iff] at hvs ⊢
 exact ⟨hvs.1, fun q x v hx hv => h2 x v (hvs.2 q x v hx hv)⟩
end Abx
