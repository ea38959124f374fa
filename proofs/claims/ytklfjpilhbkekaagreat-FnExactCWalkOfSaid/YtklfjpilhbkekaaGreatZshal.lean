/- The layer, third part: weakening, freezing of slices, private tokens, and equations of loops; nothing is assumed. -/
import Derived.Test.YtklfjpilhbkekaaGreatZact
import Derived.KernelRfl
set_option linter.all false
noncomputable section
namespace Abx
open Go
def DL (x y : D) : Prop := ∀ O w v, D.ok O w x v -> D.ok O w y v
def CLe : List D -> List D -> Prop
 | [], [] => True
 | x :: xs, y :: ys => DL x y /\ CLe xs ys
 | _, _ => False
theorem DL.forget {e : Nat} {nl : Option Bool} {xs : List D} : DL (.sl e nl xs) (.sl e none xs) := fun _ _ _ h => by
 simp only [D.ok] at h ⊢
 obtain ⟨a, cap, h1, h2, _, h4⟩ := h
 exact ⟨a, cap, h1, h2, trivial, h4⟩
theorem DL.nil {e e' : Nat} {nl : Option Bool} : DL (.sl e nl []) (.sl e' none []) := fun _ _ _ h => by
 simp only [D.ok] at h ⊢
 obtain ⟨a, cap, h1, h2, _, h4⟩ := h
 exact ⟨a, cap, h1, h2, trivial, by simp⟩
theorem CLe.oks {O : Own} {w : World} : ∀ {xs ys : List D} {vs : List Value}, CLe xs ys -> D.oks O w xs vs -> D.oks O w ys vs
 | [], [], _, _, h => h
 | _ :: _, _ :: _, _, hl, h => by
  simp only [D.oks] at h ⊢
  obtain ⟨v, r, h1, h2, h3, h4⟩ := h
  exact ⟨v, r, h1, h2, hl.1 _ _ _ h3, CLe.oks hl.2 h4⟩
 | [], _ :: _, _, hl, _ => hl.elim
 | _ :: _, [], _, hl, _ => hl.elim
theorem DL.agg {xs ys : List D} (h : CLe xs ys) : DL (.agg xs) (.agg ys) := fun _ _ _ hv => by
 simp only [D.ok] at hv ⊢
 obtain ⟨vs, h1, h2⟩ := hv
 exact ⟨vs, h1, h.oks h2⟩
theorem AV.le_d {x y : D} (h : DL x y) : AV.le (.d x) (.d y) := fun _ _ _ _ hv => by simp only [AV.ok] at hv ⊢; exact h _ _ _ hv
theorem AV.le_ownD {e id : Nat} {xs : List D} {y : D} (h : DL (.sl e none xs) y) : AV.le (.own e id xs) (.d y) := fun _ _ _ _ hv => by
 simp only [AV.ok] at hv ⊢; exact h _ _ _ hv.1
theorem AV.le_agg {xs ys : List AV} (h : w8 xs ys) : AV.le (.agg xs) (.agg ys) := fun _ _ _ _ hv => by
 simp only [AV.ok] at hv ⊢
 obtain ⟨vs, h1, h2, h3⟩ := hv
 exact ⟨vs, h1, h2, h.oks h3⟩
theorem k3v {β : x5} {O : Own} {w : World} : ∀ {ys : List D} {vs : List Value}, (∀ u ∈ vs, one u = true) -> AV.oks β O w (ys.map .d) vs -> D.oks O w ys vs
 | [], _, _, h => by simpa [AV.oks, D.oks] using h
 | y :: ys, vs, h1, h => by
  simp only [List.map_cons, AV.oks, D.oks] at h ⊢
  obtain ⟨v, r, rfl, h2, h3⟩ := h
  exact ⟨v, r, rfl, h1 v (by simp), by simpa [AV.ok] using h2, k3v (fun u hu => h1 u (by simp [hu])) h3⟩
theorem AV.le_aggD {xs : List AV} {ys : List D} (h : w8 xs (ys.map .d)) : AV.le (.agg xs) (.d (.agg ys)) := fun _ _ _ _ hv => by
 simp only [AV.ok, D.ok] at hv ⊢
 obtain ⟨vs, h1, h2, h3⟩ := hv
 exact ⟨vs, h1, k3v h2 (h.oks h3)⟩
theorem AV.le_tup {xs ys : List AV} (h : w8 xs ys) : AV.le (.tup xs) (.tup ys) := fun _ _ _ _ hv => by
 simp only [AV.ok] at hv ⊢
 obtain ⟨vs, h1, h3⟩ := hv
 exact ⟨vs, h1, h.oks h3⟩
theorem j0d {e e' : Nat} {nl : Option Bool} : AV.le (.d (.sl e nl [])) (.d (.sl e' none [])) ↔ True := ⟨fun _ => trivial, fun _ => AV.le_d DL.nil⟩
theorem z8m {e e' : Nat} {nl : Option Bool} : DL (.sl e nl []) (.sl e' none []) ↔ True := ⟨fun _ => trivial, fun _ => DL.nil⟩
theorem j4v {xs : List AV} {ys : List D} (h : w8 xs (ys.map .d)) : AV.le (.agg xs) (.d (.agg ys)) ↔ True := ⟨fun _ => trivial, fun _ => AV.le_aggD h⟩
theorem x0t {xs ys : List AV} (h : w8 xs ys) : AV.le (.tup xs) (.tup ys) ↔ True := ⟨fun _ => trivial, fun _ => AV.le_tup h⟩
def NLe (x y : AV) : Prop := x = y ∨ ((∀ d, x ≠ .dp d) /\ (∀ d, y ≠ .dp d) /\ AV.le x y) ∨ ∃ e0 e, x = .d (.sl e0 (some true) []) /\ y = .dp (.sl e none [])
def k1i : List AV -> List AV -> Prop
 | [], [] => True
 | x :: xs, y :: ys => NLe x y /\ k1i xs ys
 | _, _ => False
theorem k1i.refl : ∀ xs : List AV, k1i xs xs
 | [] => trivial
 | x :: xs => ⟨.inl rfl, k1i.refl xs⟩
theorem k1i.length : ∀ {xs ys : List AV}, k1i xs ys -> xs.length = ys.length
 | [], [] => fun _ => rfl
 | x :: xs, y :: ys => fun h => by simp [k1i.length h.2]
 | [], _ :: _ => fun h => h.elim
 | _ :: _, [] => fun h => h.elim
theorem NLe.nx {β : x5} {O : Own} {w : World} {x y : AV} {v : Value} {bs : List Nat} (h : NLe x y) (hx : NX β O w x v bs) : NX β O w y v bs := by
 rcases h with rfl | ⟨h1, h2, h3⟩ | ⟨e0, e, rfl, rfl⟩
 ·exact hx
 ·exact hx.imp (x' := y) (fun _ _ => rfl) (.inr ⟨h1, h2, h3 _ _ _ _⟩)
 ·obtain ⟨h1, h2⟩ := hx
  have h1 : AV.ok β O w (.d (.sl e0 (some true) [])) v := h1
  simp only [AV.ok, D.ok] at h1
  obtain ⟨a, cap, h3, h4, ⟨rfl, rfl⟩, _⟩ := h1
  show NV w (.sl e none []) v bs
  simp only [NV]
  exact ⟨none, 0, h3, h4, trivial, .inl ⟨rfl, trivial, h2⟩⟩
theorem k1i.nxs {β : x5} {O : Own} {w : World} : ∀ {xs ys : List AV} {vs : List Value} {bs : List Nat}, k1i xs ys -> NXs β O w xs vs bs -> NXs β O w ys vs bs
 | [], [] => fun _ h => h
 | x :: xs, y :: ys => fun hl h => by
  simp only [NXs] at h ⊢
  obtain ⟨v, r, b1, b2, h1, h2, h3, h4⟩ := h
  exact ⟨v, r, b1, b2, h1, h2, hl.1.nx h3, k1i.nxs hl.2 h4⟩
 | [], _ :: _ => fun h => h.elim
 | _ :: _, [] => fun h => h.elim
def k7b : Ob -> Ob -> Prop
 | .dead, .dead => True
 | .obj t cs, .obj t' cs' => t = t' /\ w8 cs cs'
 | .tok t e n, .tok t' e' n' => t = t' /\ e = e' /\ n = n'
 | .gro t e n cs, .gro t' e' n' cs' => t = t' /\ e = e' /\ n = n' /\ w8 (cs.map .d) (cs'.map .d)
 | .nst t e n cs, .nst t' e' n' cs' => t = t' /\ e = e' /\ n = n' /\ k1i cs cs'
 | .prv e n cs, .prv e' n' cs' => e = e' /\ n = n' /\ k1i cs cs'
 | _, _ => False
def e2q : j9 -> j9 -> Prop
 | [], [] => True
 | (i, x) :: r, (j, y) :: r' => i = j /\ k7b x y /\ e2q r r'
 | _, _ => False
theorem e2q.sat : ∀ {s s' : j9}, e2q s s' -> ∀ id, k7b (Abx.sat s id) (Abx.sat s' id)
 | [], [], _, _ => trivial
 | (i, x) :: r, (j, y) :: r', h, id => by
  obtain ⟨rfl, h1, h2⟩ := h
  simp only [Abx.sat]
  split
  ·exact h1
  ·exact h2.sat id
 | [], _ :: _, h, _ => h.elim
 | _ :: _, [], h, _ => h.elim
theorem w8.doks {O : Own} {w : World} : ∀ {xs ys : List D} {vs : List Value}, w8 (xs.map .d) (ys.map .d) -> D.oks O w xs vs -> D.oks O w ys vs
 | [], [], _, _, h => h
 | x :: xs, y :: ys, _, hl, h => by
  simp only [D.oks] at h ⊢
  obtain ⟨v, r, h1, h0, h2, h3⟩ := h
  refine ⟨v, r, h1, h0, ?_, w8.doks hl.2 h3⟩
  have := hl.1 (fun _ => .no) O w v (by simpa only [AV.ok] using h2)
  simpa only [AV.ok] using this
 | [], _ :: _, _, hl, _ => hl.elim
 | _ :: _, [], _, hl, _ => hl.elim
theorem w8.length' : ∀ {xs ys : List D}, w8 (xs.map .d) (ys.map .d) -> xs.length = ys.length
 | [], [], _ => rfl
 | x :: xs, y :: ys, hl => by simp [w8.length' hl.2]
 | [], _ :: _, hl => hl.elim
 | _ :: _, [], hl => hl.elim
theorem Inv.told {C : Ctx} {β : x5} {s s' : j9} {w : World} (h : Inv C β s w) (hs : ∀ id, k7b (sat s id) (sat s' id)) : Inv C β s' w /\ C.forb β s' = C.forb β s := by
 have hown : ∀ b x, own β s' b x ↔ own β s b x := fun b x => by
  unfold own
  refine exists_congr fun id => ?_
  have := hs id
  revert this
  cases sat s id <;> cases sat s' id <;> intro h1 <;> first | exact h1.elim | exact Iff.rfl | skip
  ·obtain ⟨_, rfl, rfl⟩ := h1
   exact Iff.rfl
  ·obtain ⟨_, rfl, rfl, _⟩ := h1
   exact Iff.rfl
  ·obtain ⟨_, rfl, rfl, _⟩ := h1
   exact Iff.rfl
  ·obtain ⟨rfl, rfl, _⟩ := h1
   exact Iff.rfl
 have hblk : ∀ id b, q8 β s' id b ↔ q8 β s id b := fun id b => by
  unfold q8
  have := hs id
  revert this
  cases sat s id <;> cases sat s' id <;> intro h1 <;> first | exact h1.elim | exact Iff.rfl | skip
  ·obtain ⟨_, rfl, rfl⟩ := h1
   exact Iff.rfl
  ·obtain ⟨_, rfl, rfl, _⟩ := h1
   exact Iff.rfl
  ·obtain ⟨_, rfl, rfl, _⟩ := h1
   exact Iff.rfl
  ·obtain ⟨rfl, rfl, _⟩ := h1
   exact Iff.rfl
 have hf : C.forb β s' = C.forb β s := by funext b o; exact propext (or_congr Iff.rfl (hown b o))
 refine ⟨⟨h.size, h.io, h.keep, h.blks, fun b o ho => h.ownd b o ((hown b o).1 ho), fun id b hb => h.ownB id b ((hblk id b).1 hb), h.pl, h.low, fun id => ?_,
  fun i j b hi hj => h.inj i j b ((hblk i b).1 hi) ((hblk j b).1 hj)⟩, hf⟩
 rw [hf]
 have h1 := h.obs id
 have h2 := hs id
 revert h1 h2
 cases sat s id <;> cases sat s' id <;> intro h1 h2 <;> first | exact h2.elim | exact h1 | skip
 ·obtain ⟨rfl, h2⟩ := h2
  obtain ⟨b, vs, h3, h4, h5, h6⟩ := h1
  exact ⟨b, vs, h3, h4, h5, h6.imp fun _ h => h2.oks h⟩
 ·obtain ⟨rfl, rfl, rfl⟩ := h2
  exact h1
 ·obtain ⟨rfl, rfl, rfl, h2⟩ := h2
  obtain ⟨u, h3, h4, h5⟩ := h1
  refine ⟨u, h3, h2.length' ▸ h4, ?_⟩
  rcases h5 with h5 | ⟨b, cap, vs, k1, k2, k3, k4, k5, k6, pre, rest, k7, k8⟩
  ·exact .inl h5
  ·exact .inr ⟨b, cap, vs, k1, k2, k3, k4, k5, k6, pre, rest, k7, h2.doks k8⟩
 ·obtain ⟨rfl, rfl, rfl, h2⟩ := h2
  obtain ⟨u, bs, h3, h4, h5, h6⟩ := h1
  refine ⟨u, bs, h3, h4, h2.length ▸ h5, ?_⟩
  rcases h6 with h6 | ⟨b, cap, vs, k1, k2, k3, k4, k5, k6, k7, k8⟩
  ·exact .inl h6
  ·exact .inr ⟨b, cap, vs, k1, k2, k3, k4, k5, k6, k7, h2.nxs k8⟩
 ·obtain ⟨rfl, rfl, h2⟩ := h2
  obtain ⟨u, bs, h3, h4, h5, h6⟩ := h1
  refine ⟨u, bs, h3, h4, h2.length ▸ h5, ?_⟩
  rcases h6 with h6 | ⟨b, cap, vs, t, k1, k2, k3, k4, k5, k6, k9, k7, k8⟩
  ·exact .inl h6
  ·exact .inr ⟨b, cap, vs, t, k1, k2, k3, k4, k5, k6, k9, k7, h2.nxs k8⟩
theorem y0.leS {k : Nat} {env env' : List AV} {s s' : j9} (h : w8 env env') (hs : e2q s s') : y0 k env s env' s' := fun C β a w hC hst => by
 obtain ⟨h1, hf⟩ := hst.inv.told hs.sat
 obtain ⟨h3, h4⟩ := h.get
 exact ⟨β, hst.defers, h1, by rw [hst.len, h3], fun i y hy => by rw [hf]; exact let ⟨x, hx, hle⟩ := h4 i y hy; hle _ _ _ _ (hst.env i x hx)⟩
def k3f (id : Nat) : j9 -> j9
 | [] => []
 | (j, x) :: r => if j = id then k3f id r else (j, x.kill id) :: k3f id r
theorem k0k (id j : Nat) : ∀ s : j9, sat (k3f id s) j = sat (p8 id s) j
 | [] => rfl
 | (i, x) :: r => by
  simp only [k3f, p8]
  by_cases h : i = id
  ·subst h
   simp only [if_true, sat, k0k i j r]
   split
   ·rename_i h2; subst h2; rw [q0k]; simp
   ·rfl
  ·simp only [h, if_false, sat, k0k id j r]
theorem y0.drop {k : Nat} {env : List AV} {s : j9} (id : Nat) (hid : k <= id) : y0 k env s (AV.rens (y8 id) env) (k3f id s) :=
 (y0.kill id hid).trans (y0.sto fun j => (k0k id j s).symm)
theorem MWp.mono {P : Program} {k : Nat} {mc : j5} {Q Q' : q9j} {env : List AV} {s : j9} (h : MWp P k mc Q env s) (hq : ∀ e env s, Q e env s -> Q' e env s) : MWp P k mc Q' env s :=
 fun C hC hf c hc β a w hst => wpIn_mono (h C hC hf c hc β a w hst) fun e _ _ ⟨C', hx, β', env', s', h1, h2⟩ => ⟨C', hx, β', env', s', h1, hq e env' s' h2⟩
def vcm (P : Program) (k : Nat) : j5 -> q9j -> List AV -> j9 -> Prop
 | .skip, Q, env, s => Q .normal env s
 | .reg ms, Q, env, s => vgo P k (Q .normal) ms env s
 | .draw ms af, Q, env, s => P.follows .mixedOrders = true /\ vdr P k (drQ ms af Q) ms [] env s
 | .seq a b, Q, env, s => vcm P k a (z3k (fun env s => vcm P k b Q env s) Q) env s
 | .cond o a b, Q, env, s => match ev env o with
  | .d (.lit (.bool t)) => if t = true then vcm P k a Q env s else vcm P k b Q env s
  | _ => False
 | .block id a, Q, env, s => vcm P k a (z1e id Q) env s
 | .loop x, Q, env, s => MWp P k (.loop x) Q env s
 | .exit id, Q, env, s => Q (.exit id) env s
 | .ret, Q, env, s => Q .ret env s
 | .dead, _, _, _ => False
 | .ghost x, Q, env, s => ∃ env' s', y0 k env s env' s' /\ vcm P k x Q env' s'
 | .rng g ps a b, Q, env, s => MWp P k (.rng g ps a b) Q env s
theorem q6 {P : Program} {k : Nat} : ∀ {mc : j5} {Q : q9j} {env : List AV} {s : j9}, vcm P k mc Q env s -> MWp P k mc Q env s
 | .skip, _, _, _, h => y2w h
 | .reg _, _, _, _, h => m_go h
 | .draw _ _, _, _, _, h => m_dgo h.1 h.2
 | .seq a b, Q, env, s, h => m_seq (MWp.mono (q6 (mc := a) h) fun e env s hq => by
  cases e with
  | normal => exact q6 (mc := b) hq
  | _ => exact hq)
 | .cond o a b, Q, env, s, h => by
  simp only [vcm] at h
  split at h
  ·rename_i t ht
   refine y2s ht ?_
   unfold Br
   split at h
   ·rename_i hb; rw [if_pos hb]; exact q6 (mc := a) h
   ·rename_i hb; rw [if_neg hb]; exact q6 (mc := b) h
  ·exact h.elim
 | .block id a, _, _, _, h => x7y (q6 (mc := a) h)
 | .loop x, _, _, _, h => h
 | .exit id, _, _, _, h => y2u h
 | .ret, _, _, _, h => m_ret h
 | .dead, _, _, _, h => h.elim
 | .ghost x, _, _, _, h => let ⟨_, _, hw, h⟩ := h; x7z hw (q6 (mc := x) h)
 | .rng _ _ _ _, _, _, _, h => h
def p5q (P : Program) (k : Nat) (x : j5) (Q : q9j) (env : List AV) (s : j9) : Prop := ∃ env' s', y0 k env s env' s' /\ vcm P k x Q env' s'
theorem p5q.of {P : Program} {k : Nat} {x : j5} {Q : q9j} {env env' : List AV} {s s' : j9} (hw : y0 k env s env' s') (h : vcm P k x Q env' s') : p5q P k x Q env s := ⟨_, _, hw, h⟩
def BrC (P : Program) (k : Nat) (b : Bool) (x y : j5) (Q : q9j) (env : List AV) (s : j9) : Prop := if b = true then vcm P k x Q env s else vcm P k y Q env s
def j6x (P : Program) (k : Nat) (x y : j5) (Q : q9j) (env : List AV) (s : j9) : AV -> Prop
 | .d (.lit (.bool b)) => BrC P k b x y Q env s
 | _ => False
section
variable {P : Program} {k : Nat} {Q : q9j} {env env' : List AV} {s s' : j9} {x y mc : j5} {b : Bool}
theorem x3c : vcm P k .skip Q env s = Q .normal env s := (rfl)
theorem x9s {ms : List f8} : vcm P k (.reg ms) Q env s = vgo P k (Q .normal) ms env s := (rfl)
theorem x2z {ms : List f8} {af : List (List Nat)} : vcm P k (.draw ms af) Q env s = (P.follows .mixedOrders = true /\ vdr P k (drQ ms af Q) ms [] env s) := (rfl)
theorem x9u : vcm P k (.seq x y) Q env s = vcm P k x (z3k (vcm P k y Q) Q) env s := (rfl)
theorem j6v {id : Nat} : vcm P k (.block id x) Q env s = vcm P k x (z1e id Q) env s := (rfl)
theorem x3b : vcm P k (.loop x) Q env s = MWp P k (.loop x) Q env s := (rfl)
theorem j6w : vcm P k (.ghost x) Q env s = p5q P k x Q env s := (rfl)
theorem x3a {id : Nat} : vcm P k (.exit id) Q env s = Q (.exit id) env s := (rfl)
theorem x9t : vcm P k .ret Q env s = Q .ret env s := (rfl)
theorem x2y {o : Operand} : vcm P k (.cond o x y) Q env s = j6x P k x y Q env s (ev env o) := by
 simp only [vcm]
 split
 ·rename_i b h; rw [h]; rfl
 ·rename_i h
  unfold j6x
  split
  ·rename_i b h2; exact absurd h2 (h b)
  ·rfl
theorem BrC_t : BrC P k true x y Q env s = vcm P k x Q env s := by simp [BrC]
theorem BrC_f : BrC P k false x y Q env s = vcm P k y Q env s := by simp [BrC]
end
section
variable {P : Program} {k k0 : Nat} {Q : q9j} {K : List AV -> j9 -> Prop} {env env' : List AV} {s s' : j9} {x y mc : j5} {b b' want : Bool} {m : MOp} {d : Option Nat} {ms : List f8}
 {F : List (List Nat × List Nat) -> List AV -> j9 -> Prop} {acc acc' : List (List Nat × List Nat)} {foot foot' : List Nat}
@[congr] theorem y7n (he : env = env') (hs : s = s') : vcm P k mc Q env s = vcm P k mc Q env' s' := by rw [he, hs]
@[congr] theorem y1c (he : env = env') (hs : s = s') : MWp P k mc Q env s = MWp P k mc Q env' s' := by rw [he, hs]
@[congr] theorem y0p (hb : b = b') : BrC P k b x y Q env s = BrC P k b' x y Q env s := by rw [hb]
@[congr] theorem y0n {R : List AV -> j9 -> Prop} {o o' : Out} (h : o = o') : q3o P k0 R d o = q3o P k0 R d o' := by rw [h]
@[congr] theorem y0r (hb : b = b') : BrG P k0 K b want m d ms env s = BrG P k0 K b' want m d ms env s := by rw [hb]
@[congr] theorem x6z {R : List AV -> j9 -> Prop} {f : Nat} {args args' : List AV} (ha : args = args') (he : env = env') (hs : s = s') :
 a3q P k0 f args env s d R = a3q P k0 f args' env' s' d R := by rw [ha, he, hs]
@[congr] theorem x9w {o o' : Del} (hf : foot = foot') (h : o = o') : q0n P k0 F ms acc foot d env s o = q0n P k0 F ms acc foot' d env s o' := by rw [h, hf]
@[congr] theorem y0w (hb : b = b') : BrH P k0 F b want m d ms acc env s = BrH P k0 F b' want m d ms acc env s := by rw [hb]
@[congr] theorem x6x {f : Nat} {args args' : List AV} (ha : args = args') : q3y P k0 F ms acc foot d env s f args = q3y P k0 F ms acc foot d env s f args' := by rw [ha]
@[congr] theorem y1v {af : List (List Nat)} (ha : acc = acc') (he : env = env') (hs : s = s') : drQ ms af Q acc env s = drQ ms af Q acc' env' s' := by rw [ha, he, hs]
end
theorem j9z {P : Program} {k0 f : Nat} {args env : List AV} {s : j9} {d : Option Nat} {R : List AV -> j9 -> Prop} {as : List D} {r : D} (hc : p7 P f as r)
 (ha : w8 (args.map fun x => x.ren (inρ [])) (as.map .d)) (hk : R (d7 d env (.d r)) s) : a3q P k0 f args env s d R := k1l (z6n ha hc hk)
theorem j3b {P : Program} {k0 f : Nat} {args env : List AV} {s : j9} {d : Option Nat} {R : List AV -> j9 -> Prop} {as : List D} {rs : List D} (hc : r9 P f as rs)
 (ha : w8 (args.map fun x => x.ren (inρ [])) (as.map .d)) (hk : R (d7 d env (.tup (rs.map .d))) s) : a3q P k0 f args env s d R := k1l (z1l ha hc hk)
theorem j9x {P : Program} {k0 : Nat} {F : List (List Nat × List Nat) -> List AV -> j9 -> Prop} {ms : List f8} {acc : List (List Nat × List Nat)} {foot : List Nat} {d : Option Nat} {env : List AV} {s : j9}
 {f : Nat} {args : List AV} {as : List D} {r : D} (hc : p7 P f as r) (ha : w8 (args.map fun x => x.ren (inρ [])) (as.map .d))
 (hk : vdr P k0 F ms ((foot, []) :: acc) (d7 d env (.d r)) s) : q3y P k0 F ms acc foot d env s f args := .inl ⟨_, ha, .inl ⟨r, hc, hk⟩⟩
theorem j3a {P : Program} {k0 : Nat} {F : List (List Nat × List Nat) -> List AV -> j9 -> Prop} {ms : List f8} {acc : List (List Nat × List Nat)} {foot : List Nat} {d : Option Nat} {env : List AV} {s : j9}
 {f : Nat} {args : List AV} {as rs : List D} (hc : r9 P f as rs) (ha : w8 (args.map fun x => x.ren (inρ [])) (as.map .d))
 (hk : vdr P k0 F ms ((foot, []) :: acc) (d7 d env (.tup (rs.map .d))) s) : q3y P k0 F ms acc foot d env s f args := .inl ⟨_, ha, .inr ⟨rs, hc, hk⟩⟩
theorem t6.pureL {P : Program} {f : Nat} {mc : j5} {n : Nat} {rs : List k6n} (h : t6 P f mc n rs) {args : List D} {r : D}
 (hm : MWp P 0 mc (x0h rs fun x _ => AV.le x (.d r)) (args.map .d ++ List.replicate (n - (args.map AV.d).length) .junk) []) : p7 P f args r :=
 (h.calls hm).mono fun _ _ hx => ⟨_, hx, rfl⟩
theorem t6.pureLN {P : Program} {f : Nat} {mc : j5} {n : Nat} {rs : List k6n} (h : t6 P f mc n rs) {args : List D} {ds : List D}
 (hm : MWp P 0 mc (x0h rs fun x _ => AV.le x (.tup (ds.map .d))) (args.map .d ++ List.replicate (n - (args.map AV.d).length) .junk) []) : r9 P f args ds :=
 (h.calls hm).mono fun _ _ hx => ⟨_, hx, rfl⟩
def q9k {σ β : Type} (f : σ -> Option (σ ⊕ β)) : Nat -> σ -> β -> Prop
 | 0, _, _ => False
 | n + 1, s, b => f s = some (.inr b) ∨ ∃ s', f s = some (.inl s') /\ q9k f n s' b
theorem q9k.det {σ β : Type} {f : σ -> Option (σ ⊕ β)} : ∀ {n m : Nat} {s : σ} {b c : β}, q9k f n s b -> q9k f m s c -> b = c
 | 0, _, _, _, _, h, _ => h.elim
 | _ + 1, 0, _, _, _, _, h => h.elim
 | n + 1, m + 1, s, b, c, h1, h2 => by
  rcases h1 with h1 | ⟨s1, h1, h3⟩ <;> rcases h2 with h2 | ⟨s2, h2, h4⟩ <;> rw [h1] at h2 <;> cases h2
  ·rfl
  ·exact q9k.det h3 h4
open Classical in
def loopC {σ β : Type} (f : σ -> Option (σ ⊕ β)) (s : σ) : Option β := if h : ∃ b n, q9k f n s b then some (choose h) else none
theorem a6q {σ β : Type} {f : σ -> Option (σ ⊕ β)} {s : σ} {b : β} (h : loopC f s = some b) : ∃ n, q9k f n s b := by
 unfold loopC at h
 split at h
 ·rename_i hx; cases h; exact Classical.choose_spec hx
 ·cases h
theorem q9k.loopC {σ β : Type} {f : σ -> Option (σ ⊕ β)} {n : Nat} {s : σ} {b : β} (h : q9k f n s b) : loopC f s = some b := by
 have hx : ∃ b n, q9k f n s b := ⟨b, n, h⟩
 unfold Abx.loopC
 rw [dif_pos hx]
 obtain ⟨m, hm⟩ := Classical.choose_spec hx
 rw [hm.det h]
theorem x8 {σ β : Type} {f : σ -> Option (σ ⊕ β)} {s : σ} {b : β} (h : f s = some (.inr b)) : loopC f s = some b := q9k.loopC (n := 1) (.inl h)
theorem p9 {σ β : Type} {f : σ -> Option (σ ⊕ β)} {s s' : σ} (h : f s = some (.inl s')) : loopC f s = loopC f s' := by
 cases hx : loopC f s' with
 | some b => obtain ⟨n, hn⟩ := a6q hx; exact q9k.loopC (n := n + 1) (.inr ⟨s', h, hn⟩)
 | none =>
  cases hy : loopC f s with
  | none => rfl
  | some b =>
   obtain ⟨n, hn⟩ := a6q hy
   cases n with
   | zero => exact hn.elim
   | succ n =>
    rcases hn with hn | ⟨s2, h2, h3⟩
    ·rw [h] at hn; cases hn
    ·rw [h] at h2; cases h2; rw [h3.loopC] at hx; cases hx
theorem w5q {P : Program} {k : Nat} {Q : q9j} {env : List AV} {s : j9} {x : j5} {σ β : Type} {f : σ -> Option (σ ⊕ β)} {s0 : σ} {b : β} (hb : loopC f s0 = some b)
 (ws : List Nat) (vs : σ -> List (Nat × AV)) (S : σ -> j9) (hw : y0 k env s (q5l (q0s env ws) (vs s0)) (S s0))
 (round : ∀ p t, f p = some t -> (∀ b', t = .inr b' -> b' = b) -> MWp P k x (z3k (fun env' s' => ∃ p', t = .inl p' /\ y0 k env' s' (q5l (q0s env ws) (vs p')) (S p')) Q)
  (q5l (q0s env ws) (vs p)) (S p)) : MWp P k (.loop x) Q env s := by
 obtain ⟨n, hn⟩ := a6q hb
 refine x8a ws (fun p : Nat × σ => vs p.2) (fun p => S p.2) (fun p => q9k f p.1 p.2 b) (·.1) (n, s0) hn hw ?_
 rintro ⟨m, p⟩ hm
 cases m with
 | zero => exact hm.elim
 | succ m =>
  rcases hm with hm | ⟨p', hm, hr⟩
  ·refine (round p _ hm fun b' hb' => by cases hb'; rfl).mono fun e env s hq => ?_
   cases e with
   | normal => obtain ⟨p', hp, _⟩ := hq; cases hp
   | _ => exact hq
  ·refine (round p _ hm fun b' hb' => by cases hb').mono fun e env s hq => ?_
   cases e with
   | normal => obtain ⟨p2, hp, hw⟩ := hq; cases hp; exact ⟨(m, p'), hr, Nat.lt_succ_self m, hw⟩
   | _ => exact hq
theorem f8q {α : Type} {p : Prop} [Decidable p] {a : Option α} {r : α} (h : (if p then a else none) = some r) : p /\ a = some r := by
 split at h
 ·rename_i hp; exact ⟨hp, h⟩
 ·cases h
theorem k9i {α : Type} {c : Bool} {a b : Option α} {r : α} (h : (if c = true then a else b) = some r) : (c = true /\ a = some r) ∨ (c = false /\ b = some r) := by
 cases c with
 | true => exact .inl ⟨rfl, by simpa using h⟩
 | false => exact .inr ⟨rfl, by simpa using h⟩
theorem q0e {α β : Type} {x : Option α} {K : α -> Option β} {r : β} (h : x.bind K = some r) : ∃ a, x = some a /\ K a = some r := Option.bind_eq_some_iff.1 h
theorem u9 {σ β : Type} {x : Option β} {t : σ ⊕ β} {b : β} (h : x.map Sum.inr = some t) (hb : ∀ b', t = .inr b' -> b' = b) : x = some b := by
 cases x with
 | none => cases h
 | some c => cases h; rw [hb c rfl]
open Classical in
def x5v {α β : Type} (xs : List α) (a b : Option β) : Option β := if xs = [] then (if a = b then b else none) else b
theorem k8m {α β : Type} {xs : List α} {a b : Option β} {r : β} (h : x5v xs a b = some r) : (xs = [] -> a = some r) /\ b = some r := by
 unfold x5v at h
 split at h
 ·split at h
  ·rename_i h1; exact ⟨fun _ => h1.trans h, h⟩
  ·cases h
 ·rename_i hx; exact ⟨fun he => absurd he hx, h⟩
open Classical in
def j0j {α : Type} (f : Nat -> Option α) : Option α := if h : ∃ a n, f n = some a then some (choose h) else none
theorem q2n {α : Type} {f : Nat -> Option α} {a : α} (h : j0j f = some a) : ∃ n, f n = some a := by
 unfold j0j at h
 split at h
 ·rename_i hx; cases h; exact Classical.choose_spec hx
 ·cases h
theorem j4x {α : Type} {f : Nat -> Option α} {a : α} (n : Nat) (h : f n = some a) (hu : ∀ m b, f m = some b -> b = a) : j0j f = some a := by
 have hx : ∃ a n, f n = some a := ⟨a, n, h⟩
 unfold j0j
 rw [dif_pos hx]
 obtain ⟨m, hm⟩ := Classical.choose_spec hx
 rw [hu m _ hm]
theorem z7m {p q : Prop} (hp : p) (hq : q) : p /\ q := ⟨hp, hq⟩
def x4o (n off : Nat) (ag : Bool) (K : AV -> Prop) : Ob -> Prop
 | .obj _ cs => off + n <= cs.length /\ K (j0z n off cs ag)
 | _ => False
theorem j4y {n id off : Nat} {ag : Bool} {s : j9} {K : AV -> Prop} : q4d n ag (.ptr id off) s K = x4o n off ag K (sat s id) := by
 simp only [q4d]
 cases sat s id with
 | obj t cs => cases ag <;> rfl
 | _ => rfl
attribute [go_sem] x4o j4y
theorem x2u : AV.undo [] = some [] := rfl
theorem j6o {x : D} {xs : List AV} : AV.undo (.d x :: xs) = (AV.undo xs).map (x :: ·) := rfl
theorem x2v {e id : Nat} {ys : List D} {xs : List AV} : AV.undo (.own e id ys :: xs) = none := rfl
theorem x2w {id off : Nat} {xs : List AV} : AV.undo (.ptr id off :: xs) = none := rfl
theorem x2t {e id off len : Nat} {xs : List AV} : AV.undo (.msl e id off len :: xs) = none := rfl
theorem x9r {f : Nat} {a b xs : List AV} : AV.undo (.fn f a b :: xs) = none := rfl
theorem j6r {xs : List AV} : AV.undo (.junk :: xs) = none := rfl
theorem x2r {ys xs : List AV} : AV.undo (.agg ys :: xs) = none := rfl
def mkO (cs : List AV) : Option (List D) -> AV
 | some ds => .d (.agg ds)
 | none => .agg cs
theorem y6o : AV.mk [] = .d (.agg []) := rfl
theorem x8h {x : AV} {xs : List AV} : AV.mk (x :: xs) = mkO (x :: xs) (AV.undo (x :: xs)) := by unfold AV.mk; cases AV.undo (x :: xs) <;> rfl
attribute [go_sem] x2u j6o x2v x2w x2t x9r j6r x2r mkO y6o x8h
theorem j9e : cAV (.pointer none) = .d (.lit (.pointer none)) := rfl
theorem j9d : cAV (.map none) = .d (.lit (.map none)) := rfl
theorem x6f : cAV .nilFunc = .d (.lit .nilFunc) := rfl
theorem y1n {k : IntKind} {n : Int} : cD (.int k n) = .lit (.int k n) := rfl
theorem x6i {b : Bool} : cD (.bool b) = .lit (.bool b) := rfl
theorem j2i {b : ByteArray} : cD (.string b) = .lit (.string b) := rfl
theorem y1o : cD (.slice none 0 0) = .sl 0 (some true) [] := rfl
theorem x6k : cD (.pointer none) = .lit (.pointer none) := rfl
theorem x6j : cD (.map none) = .lit (.map none) := rfl
theorem y1m : cD .nilFunc = .lit .nilFunc := rfl
theorem x8s {k : IntKind} {n : Int} : one (.int k n) = true := rfl
theorem x1t {b : Bool} : one (.bool b) = true := rfl
theorem j0n {b : ByteArray} : one (.string b) = true := rfl
theorem j5s {a : Option Addr} {n c : Nat} : one (.slice a n c) = true := rfl
theorem x8u {a : Option Addr} : one (.pointer a) = true := rfl
theorem x8t {a : Option Nat} : one (.map a) = true := rfl
theorem x8r : one .nilFunc = true := rfl
attribute [go_sem] j9e j9d x6f y1n x6i j2i y1o x6k x6j y1m x8s x1t j0n j5s x8u x8t x8r List.all_cons List.all_nil Bool.and_self
abbrev kD (k : IntKind) (n : Int) : D := .lit (.int k n)
abbrev sD (b : ByteArray) : D := .lit (.string b)
def z7 {α : Type} (e : Nat) (f : α -> D) (xs : List α) : D := .sl e none (xs.map f)
theorem x9l {α : Type} {e : Nat} {f : α -> D} {xs : List α} : slK (.d (z7 e f xs)) = some (e, xs.map f) := rfl
theorem x8m {α : Type} {e : Nat} {f : α -> D} {xs : List α} : nlK (.d (z7 e f xs)) = none := rfl
theorem j3n {α : Type} {e : Nat} {f : α -> D} {xs : List α} : AV.cells (.d (z7 e f xs)) = some [.d (z7 e f xs)] := rfl
theorem z8z {α : Type} {e : Nat} {f : α -> D} {xs : List α} : AV.acells (.d (z7 e f xs)) = none := rfl
theorem z9v {α : Type} {e : Nat} {f : α -> D} {xs : List α} : z6 (z7 e f xs) = [z7 e f xs] := rfl
theorem j4c {α : Type} [Inhabited α] {f : α -> D} {l : List α} {i : Nat} {d : D} (h : i < l.length) : (l.map f).getD i d = f (l.getD i default) := by
 simp [lgd, List.getElem?_map, List.getElem?_eq_getElem h]
attribute [go_sem] List.length_map lap Option.map_some Option.map_none obz and_self Nat.not_lt_zero Bool.not_true Bool.not_false List.forall_mem_cons List.not_mem_nil false_imp_iff implies_true j4c List.map_eq_nil_iff List.append_eq_nil_iff itn Ob.tok.injEq true_or or_true false_or or_false j0d z8m j4v x0t CLe e2q k7b k3f
attribute [go_sem] j6w x3c x9s x2z x9u j6v x3b x3a x9t x2y BrC_t BrC_f j6x x9l x8m j3n z8z z9v inρ q8r
theorem w8.refl : ∀ xs : List AV, w8 xs xs
 | [] => trivial
 | x :: xs => ⟨AV.le_refl x, w8.refl xs⟩
theorem k7b.refl : ∀ o : Ob, k7b o o
 | .dead => trivial
 | .obj _ cs => ⟨rfl, w8.refl cs⟩
 | .tok _ _ _ => ⟨rfl, rfl, rfl⟩
 | .gro _ _ _ _ => ⟨rfl, rfl, rfl, w8.refl _⟩
 | .nst _ _ _ _ => ⟨rfl, rfl, rfl, k1i.refl _⟩
 | .prv _ _ _ => ⟨rfl, rfl, k1i.refl _⟩
theorem q7h {β : x5} {s s' : j9} (hs : ∀ id, k7b (sat s id) (sat s' id)) (b o : Nat) : own β s' b o ↔ own β s b o := by
 unfold own
 refine exists_congr fun id => ?_
 have := hs id
 revert this
 cases sat s id <;> cases sat s' id <;> intro h1 <;> first | exact h1.elim | exact Iff.rfl | skip
 ·obtain ⟨_, rfl, rfl⟩ := h1
  exact Iff.rfl
 ·obtain ⟨_, rfl, rfl, _⟩ := h1
  exact Iff.rfl
 ·obtain ⟨_, rfl, rfl, _⟩ := h1
  exact Iff.rfl
 ·obtain ⟨rfl, rfl, _⟩ := h1
  exact Iff.rfl
theorem k4a {β : x5} {s s' : j9} (hs : ∀ id, k7b (sat s id) (sat s' id)) (id b : Nat) : q8 β s' id b ↔ q8 β s id b := by
 unfold q8
 have := hs id
 revert this
 cases sat s id <;> cases sat s' id <;> intro h1 <;> first | exact h1.elim | exact Iff.rfl | skip
 ·obtain ⟨_, rfl, rfl⟩ := h1
  exact Iff.rfl
 ·obtain ⟨_, rfl, rfl, _⟩ := h1
  exact Iff.rfl
 ·obtain ⟨_, rfl, rfl, _⟩ := h1
  exact Iff.rfl
 ·obtain ⟨rfl, rfl, _⟩ := h1
  exact Iff.rfl
theorem Inv.ctx {C : Ctx} {s1 : j9} {β : x5} {s : j9} {w : World} (hs : ∀ id, k7b (sat C.s id) (sat s1 id)) : Inv C β s w ↔ Inv { C with s := s1 } β s w := by
 constructor
 ·intro h
  exact ⟨h.size, h.io, fun b o v h1 h2 => h.keep b o v h1 fun h3 => h2 ((q7h hs b o).2 h3), fun b h1 h2 => h.blks b h1 fun id h3 => h2 id ((k4a hs id b).2 h3),
   fun b o h1 => (h.ownd b o h1).imp (fun h2 => (q7h hs b o).2 h2) id, fun id b h1 => (h.ownB id b h1).imp (fun ⟨i, h2⟩ => ⟨i, (k4a hs i b).2 h2⟩) (fun x => x), h.pl,
   fun b o h1 => ⟨(h.low b o h1).1, fun h2 => (h.low b o h1).2 ((q7h hs b o).1 h2)⟩, h.obs, h.inj⟩
 ·intro h
  exact ⟨h.size, h.io, fun b o v h1 h2 => h.keep b o v h1 fun h3 => h2 ((q7h hs b o).1 h3), fun b h1 h2 => h.blks b h1 fun id h3 => h2 id ((k4a hs id b).1 h3),
   fun b o h1 => (h.ownd b o h1).imp (fun h2 => (q7h hs b o).1 h2) id, fun id b h1 => (h.ownB id b h1).imp (fun ⟨i, h2⟩ => ⟨i, (k4a hs i b).1 h2⟩) (fun x => x), h.pl,
   fun b o h1 => ⟨(h.low b o h1).1, fun h2 => (h.low b o h1).2 ((q7h hs b o).2 h2)⟩, h.obs, h.inj⟩
theorem x6.sto {P : Program} {f : Nat} {as : List AV} {s s1 : j9} {k : Nat} {R : AV -> j9 -> Prop} (h : x6 P f as s1 k R) (hs : e2q s s1) : x6 P f as s k R := fun C vs h1 h2 h3 h4 => by
 subst h1
 have hs' := hs.sat
 obtain ⟨h5, h6⟩ := h3.told hs'
 refine (h { C with s := s1 } vs rfl h2 ((Inv.ctx hs').1 h5) (by
  show AV.oks C.β (Ctx.forb { C with s := s1 } C.β s1) C.w as vs.toList
  have : Ctx.forb { C with s := s1 } C.β s1 = C.forb C.β C.s := h6
  rw [this]; exact h4)).mono fun e w' ⟨v, x, β', s', e1, e2, e3, e4⟩ => ⟨v, x, β', s', e1, (Inv.ctx hs').2 e2, e3, e4⟩
def k0m : List Nat -> j9 -> j9
 | [], s => s
 | i :: r, s => k0m r (k3f i s)
def k6b : List Nat -> AV -> AV
 | [], x => x
 | i :: r, x => k6b r (x.ren (y8 i))
theorem Inv.drop {C : Ctx} {β : x5} {s : j9} {w : World} (h : Inv C β s w) (id : Nat) (hid : C.k <= id) : ∃ β', Inv C β' (k3f id s) w /\
 ∀ x v, AV.ok β (C.forb β s) w x v -> AV.ok β' (C.forb β' (k3f id s)) w (x.ren (y8 id)) v := by
 have hs : ∀ j, k7b (sat (p8 id s) j) (sat (k3f id s) j) := fun j => by rw [k0k]; exact .refl _
 obtain ⟨h1, h2⟩ := (h.kill id hid).told hs
 exact ⟨_, h1, fun x v hx => by rw [h2]; exact q6p hx⟩
theorem Inv.drops {C : Ctx} {w : World} : ∀ {ids : List Nat} {β : x5} {s : j9}, Inv C β s w -> (∀ i ∈ ids, C.k <= i) -> ∃ β', Inv C β' (k0m ids s) w /\
 ∀ x v, AV.ok β (C.forb β s) w x v -> AV.ok β' (C.forb β' (k0m ids s)) w (k6b ids x) v
 | [], β, _, h, _ => ⟨β, h, fun _ _ hx => hx⟩
 | i :: r, _, _, h, hi => by
  obtain ⟨β1, h1, h2⟩ := h.drop i (hi i (by simp))
  obtain ⟨β2, h3, h4⟩ := h1.drops (ids := r) fun j hj => hi j (by simp [hj])
  exact ⟨β2, h3, fun x v hx => h4 _ _ (h2 _ _ hx)⟩
theorem x6.cut {P : Program} {f : Nat} {args : List AV} {s : j9} {k : Nat} {y : AV} {t : j9}
 (h : x6 P f args s k fun x s' => ∃ ids, (∀ i ∈ ids, k <= i) /\ AV.le (k6b ids x) y /\ e2q (k0m ids s') t) : x6 P f args s k fun x s' => x = y /\ s' = t := fun C vs h1 h2 h3 h4 =>
 (h C vs h1 h2 h3 h4).mono fun e w' ⟨v, x, β', s', e1, e2, e3, ids, e4, e5, e6⟩ => by
  subst h2
  obtain ⟨β2, h5, h6⟩ := e2.drops e4
  obtain ⟨h7, h8⟩ := h5.told e6.sat
  exact ⟨v, y, β2, t, e1, h7, by rw [h8]; exact e5 _ _ _ _ (h6 _ _ e3), rfl, rfl⟩
theorem t6.callsO {P : Program} {f : Nat} {mc : j5} {n : Nat} {rs : List k6n} (h : t6 P f mc n rs) {args : List AV} {s t : j9} {k : Nat} {y : AV}
 (hm : MWp P k mc (x0h rs fun x s' => ∃ ids, (∀ i ∈ ids, k <= i) /\ AV.le (k6b ids x) y /\ e2q (k0m ids s') t) (args ++ List.replicate (n - args.length) .junk) s) :
 x6 P f args s k fun x s' => x = y /\ s' = t := x6.cut (h.calls hm)
theorem x7a {P : Program} {k0 f : Nat} {args env : List AV} {s : j9} {d : Option Nat} {R : List AV -> j9 -> Prop} (pr nw : List (Nat × Nat)) {as : List AV} {s1 t : j9} {y : AV}
 (hc : x6 P f as s1 pr.length fun x s' => x = y /\ s' = t) (h1 : pr.map (·.1) = List.range pr.length) (h2 : ((pr ++ nw).map (·.1)).Nodup) (h3 : ((pr ++ nw).map (·.2)).Nodup)
 (h4 : ∀ p ∈ nw, sat s p.2 = .dead /\ k0 <= p.2) (ha : w8 (args.map fun x => x.ren (inρ pr)) as) (hs : e2q (w6q s pr pr) s1)
 (hk : R (d7 d env (y.ren (q8r (pr ++ nw)))) (q5c s t (pr ++ nw) (pr ++ nw))) : a3q P k0 f args env s d R :=
 k1l ⟨pr, nw, _, h1, h2, h3, h4, (hc.sto hs).args ha, fun x s' ⟨e1, e2⟩ => by subst e1; subst e2; exact hk⟩
theorem x6y {P : Program} {k0 : Nat} {F : List (List Nat × List Nat) -> List AV -> j9 -> Prop} {ms : List f8} {acc : List (List Nat × List Nat)} {foot : List Nat} {d : Option Nat} {env : List AV} {s : j9}
 {f : Nat} {args : List AV} (pr nw : List (Nat × Nat)) {as : List AV} {s1 t : j9} {y : AV}
 (hc : x6 P f as s1 pr.length fun x s' => x = y /\ s' = t) (h1 : pr.map (·.1) = List.range pr.length) (h2 : ((pr ++ nw).map (·.1)).Nodup) (h3 : ((pr ++ nw).map (·.2)).Nodup)
 (h4 : ∀ p ∈ nw, sat s p.2 = .dead /\ k0 <= p.2) (ha : w8 (args.map fun x => x.ren (inρ pr)) as) (hs : e2q (w6q s pr pr) s1)
 (hk : vdr P k0 F ms (((pr ++ nw).map (·.2) ++ foot, (obΔ t (pr ++ nw) (pr ++ nw)).map (·.1)) :: acc) (d7 d env (y.ren (q8r (pr ++ nw)))) (q7g s (obΔ t (pr ++ nw) (pr ++ nw)))) :
 q3y P k0 F ms acc foot d env s f args := .inr ⟨pr, nw, y, t, h1, h2, h3, h4, (hc.sto hs).args ha, hk⟩
theorem z9k {P : Program} {k0 f : Nat} {args env : List AV} {s : j9} {d : Option Nat} {R : List AV -> j9 -> Prop} (o j id t e : Nat) {e0 t' : Nat} {cs : List AV} (hd : sat s id = .dead)
 (ho : sat s o = .obj t' cs) (hj : cs[j]? = some (.d (.sl e0 (some true) []))) (h : a3q P k0 f args env (j8 (j8 s id (.tok t e 0)) o (.obj t' (cs.set j (.own e id [])))) d R) :
 a3q P k0 f args env s d R := fun C β a w vs hC hst hvs => by
 obtain ⟨h1, m⟩ := hst.tokNil (t := t) (e := e) hd
 have hoi : o ≠ id := by rintro rfl; rw [hd] at ho; cases ho
 have h2 := h1.retell (o := o) (t := t') (cs := cs) (cs' := cs.set j (.own e id [])) (by rw [u5, if_neg hoi, ho]) fun _ hv => z5h hj (fun _ hv => by
  simp only [AV.ok] at hv
  rw [k5v hv]
  exact k9s (by simp [bset])) hv
 have hf : C.forb (bset β id (.tok q4f 0)) (j8 (j8 s id (.tok t e 0)) o (.obj t' (cs.set j (.own e id [])))) = C.forb (bset β id (.tok q4f 0)) (j8 s id (.tok t e 0)) := by
  funext b q
  refine propext (or_congr Iff.rfl ?_)
  unfold own
  refine exists_congr fun i => ?_
  rw [u5]
  by_cases hio : i = o
  ·subst hio; rw [if_pos rfl, u5, if_neg hoi, ho]
  ·rw [if_neg hio]
 exact h C _ a w vs hC h2 (by rw [hf]; exact m.oks hvs)
attribute [go_sem] obΔ w6q q5c Ob.ren k0m k6b
mutual
def AV.frz (id : Nat) (ds : List D) : AV -> AV
 | .junk => .junk
 | .d x => .d x
 | .own e j xs => if j = id then .d (.sl e none xs) else .own e j xs
 | .ptr j off => if j = id then .junk else .ptr j off
 | .msl e j off len => if j = id then (if e = 1 /\ off + len <= ds.length /\ (∀ d ∈ ds, (z6 d).length = 1) then .d (.sl 1 none ((ds.drop off).take len))
  else if off = 0 /\ len = ds.length /\ (∀ d ∈ ds, (z6 d).length = e) then .d (.sl e none ds) else .junk) else .msl e j off len
 | .pv cs => .pv cs
 | .agg cs => .agg (AV.frzs id ds cs)
 | .tup cs => .tup (AV.frzs id ds cs)
 | .fn f a b => .fn f (AV.frzs id ds a) (AV.frzs id ds b)
 | .gow e j n => if j = id then (if n = ds.length /\ (∀ d ∈ ds, (z6 d).length = e) then .d (.sl e none ds) else .junk) else .gow e j n
 | .gptr j k off => if j = id then .junk else .gptr j k off
 | .ful e xs => .ful e xs
 | .dp x => .dp x
def AV.frzs (id : Nat) (ds : List D) : List AV -> List AV
 | [] => []
 | x :: xs => AV.frz id ds x :: AV.frzs id ds xs
end
theorem k5k (id : Nat) (ds : List D) : ∀ xs : List AV, AV.frzs id ds xs = xs.map (AV.frz id ds)
 | [] => rfl
 | x :: xs => by simp only [AV.frzs, List.map_cons, k5k id ds xs]
theorem z8h {id : Nat} {ds : List D} {β β' : x5} {O O' : Own} {w w' : World} {x : AV} {v : Value} (h : AV.ok β O w x v -> AV.ok β' O' w' (x.frz id ds) v) :
 ((∃ d, x = .dp d /\ x.frz id ds = .dp d) ∨ (∀ d, x ≠ .dp d) /\ (∀ d, x.frz id ds ≠ .dp d) /\ (AV.ok β O w x v -> AV.ok β' O' w' (x.frz id ds) v)) := by
 cases x with
 | dp d => exact .inl ⟨d, rfl, rfl⟩
 | own e j xs => refine .inr ⟨fun d h => (nomatch h), fun d h => ?_, h⟩; simp only [AV.frz] at h; split at h <;> exact nomatch h
 | ptr j off => refine .inr ⟨fun d h => (nomatch h), fun d h => ?_, h⟩; simp only [AV.frz] at h; split at h <;> exact nomatch h
 | msl e j off len => refine .inr ⟨fun d h => (nomatch h), fun d h => ?_, h⟩; simp only [AV.frz] at h; (repeat' split at h) <;> exact nomatch h
 | gow e j k => refine .inr ⟨fun d h => (nomatch h), fun d h => ?_, h⟩; simp only [AV.frz] at h; (repeat' split at h) <;> exact nomatch h
 | gptr j k off => refine .inr ⟨fun d h => (nomatch h), fun d h => ?_, h⟩; simp only [AV.frz] at h; split at h <;> exact nomatch h
 | _ => exact .inr ⟨fun d h => (nomatch h), fun d h => (nomatch h), h⟩
def Ob.frz (id : Nat) (ds : List D) : Ob -> Ob
 | .obj t cs => .obj t (AV.frzs id ds cs)
 | .nst t e n cs => .nst t e n (AV.frzs id ds cs)
 | .prv e n cs => .prv e n (AV.frzs id ds cs)
 | x => x
def k0n (id : Nat) (ds : List D) : j9 -> j9
 | [] => []
 | (j, x) :: r => if j = id then k0n id ds r else (j, x.frz id ds) :: k0n id ds r
theorem k0l (id : Nat) (ds : List D) (j : Nat) : ∀ s : j9, sat (k0n id ds s) j = if j = id then .dead else (sat s j).frz id ds
 | [] => by simp [k0n, sat, Ob.frz]
 | (i, x) :: r => by
  simp only [k0n]
  by_cases h : i = id
  ·subst h
   simp only [if_true, sat, k0l i ds j r]
   split
   ·rfl
   ·rfl
  ·simp only [h, if_false, sat, k0l id ds j r]
   by_cases h2 : j = i
   ·subst h2; simp [h]
   ·simp [h2]
theorem k5y {β : x5} {s : j9} {id b o : Nat} {ds : List D} (h : own (bset β id .no) (k0n id ds s) b o) : ∃ i, i ≠ id /\ q0t β s i b o := by
 obtain ⟨i, h⟩ := h
 rw [k0l] at h
 by_cases hi : i = id
 ·subst hi; simp at h
 ·refine ⟨i, hi, ?_⟩
  unfold q0t
  simp only [hi, if_false] at h
  cases hs : sat s i with
  | dead => rw [hs] at h; exact h
  | obj t cs => rw [hs] at h; simpa [Ob.frz, bset, hi] using h
  | tok t e n => rw [hs] at h; simpa [Ob.frz, bset, hi] using h
  | gro t e n cs => rw [hs] at h; simpa [Ob.frz, bset, hi] using h
  | nst t e n cs => rw [hs] at h; simpa [Ob.frz, bset, hi] using h
  | prv e n cs => rw [hs] at h; simpa [Ob.frz, bset, hi] using h
theorem q8c {β : x5} {s : j9} {id i b : Nat} {ds : List D} (h : q8 (bset β id .no) (k0n id ds s) i b) : i ≠ id /\ q8 β s i b := by
 unfold q8 at h ⊢
 rw [k0l] at h
 by_cases hi : i = id
 ·subst hi; simp at h
 ·refine ⟨hi, ?_⟩
  simp only [hi, if_false] at h
  cases hs : sat s i with
  | dead => rw [hs] at h; exact h
  | obj t cs => rw [hs] at h; simpa [Ob.frz, bset, hi] using h
  | tok t e n => rw [hs] at h; simpa [Ob.frz, bset, hi] using h
  | gro t e n cs => rw [hs] at h; simpa [Ob.frz, bset, hi] using h
  | nst t e n cs => rw [hs] at h; simpa [Ob.frz, bset, hi] using h
  | prv e n cs => rw [hs] at h; simpa [Ob.frz, bset, hi] using h
theorem x5f {O : Own} {w : World} {b : Nat} : ∀ {ds : List D} {vs : List Value} {o : Nat}, (∀ d ∈ ds, z6 d = [d]) -> D.oks O w ds vs -> Cells O w b o vs -> D.row O w b o 1 ds
 | [], _, _, _, _, _ => by simp [D.row]
 | d :: ds, vs, o, hd, h, hc => by
  simp only [D.oks] at h
  obtain ⟨v, r, rfl, h1, h2, h3⟩ := h
  rw [D.row_cons]
  refine ⟨⟨[v], rfl, fun j u hj => ?_, ?_⟩, x5f (fun x hx => hd x (by simp [hx])) h3 fun j u hj => ?_⟩
  ·cases j with
   | zero => simp at hj; subst hj; exact hc 0 v rfl
   | succ j => simp at hj
  ·have := hd d (by simp)
   cases d with
   | agg cs =>
    simp only [z6] at this
    simp only [D.cel]
    have hx := congrArg List.length this
    cases cs with
    | nil => simp at hx
    | cons c cs =>
     simp only [List.cons.injEq] at this
     obtain ⟨e1, _⟩ := this
     have := congrArg SizeOf.sizeOf e1
     simp at this
     omega
   | _ => exact ⟨v, rfl, h2⟩
  ·have := hc (j + 1) u hj
   rw [show o + 1 + j = o + (j + 1) by omega]
   exact this
section
variable {C : Ctx} {β : x5} {s : j9} {w : World} {id t : Nat} {ds : List D}
theorem k8z {b o : Nat} (h : C.forb (bset β id .no) (k0n id ds s) b o) : C.forb β s b o := h.imp (fun x => x) fun h => let ⟨i, _, h⟩ := k5y h; ⟨i, h⟩
theorem k3o {x : D} {v : Value} (h : D.ok (C.forb β s) w x v) : D.ok (C.forb (bset β id .no) (k0n id ds s)) w x v := D.ok_mono (fun _ _ _ hc hn => ⟨hc, fun h => hn (k8z h)⟩) _ _ h
theorem q6n {x : List D} {v : List Value} (h : D.oks (C.forb β s) w x v) : D.oks (C.forb (bset β id .no) (k0n id ds s)) w x v := D.oks_mono (fun _ _ _ hc hn => ⟨hc, fun h => hn (k8z h)⟩) _ _ h
def z0y (s : j9) (id : Nat) (ds : List D) : Prop :=
 (∃ t, sat s id = .obj t (ds.map .d) /\ ∀ d ∈ ds, z6 d = [d]) ∨ (∃ t e, sat s id = .gro t e ds.length (ds.flatMap z6) /\ ∀ d ∈ ds, (z6 d).length = e) ∨
  ∃ t e, sat s id = .obj t ((ds.flatMap z6).map .d) /\ (∀ d ∈ ds, (z6 d).length = e) /\ e ≠ 1 /\ ds ≠ []
theorem x7j (h : Inv C β s w) (ho : sat s id = .obj t (ds.map .d)) (hd : ∀ d ∈ ds, z6 d = [d]) {off len : Nat} (hl : off + len <= ds.length) {v : Value}
 (hv : AV.ok β (C.forb β s) w (.msl 1 id off len) v) : D.ok (C.forb (bset β id .no) (k0n id ds s)) w (.sl 1 none ((ds.drop off).take len)) v := by
 simp only [AV.ok] at hv
 obtain ⟨b, cap, h1, ⟨h2, h3⟩, rfl⟩ := hv
 have hob := h.obs id
 rw [ho] at hob
 obtain ⟨b', vs, h4, h5, h6, h7⟩ := hob
 rw [h1] at h4
 cases h4
 have hlen : ((ds.drop off).take len).length = len := by simp; omega
 obtain ⟨pre, rest, hvs, h7⟩ := h7
 have h6' : ∀ u ∈ pre, one u = true := fun u hu => h6 u (by rw [hvs]; exact List.mem_append_left _ hu)
 have hoks := k3v h6' h7
 have hcells : Cells (C.forb (bset β id .no) (k0n id ds s)) w b 0 pre := fun j u hj => by
  have hju : vs[j]? = some u := by
   have : vs.toList[j]? = some u := by rw [hvs, List.getElem?_append_left (List.getElem?_eq_some_iff.1 hj).1]; exact hj
   simpa using this
  refine ⟨?_, ?_, h6' u (List.mem_of_getElem? hj)⟩
  ·simp [World.cell?, h5, hju]
  ·rintro (hO | hO)
   ·have := h.low b (0 + j) hO
    rcases h.ownd b (0 + j) ⟨id, by rw [ho]; exact h1⟩ with h8 | h8
    ·exact this.2 h8
    ·omega
   ·obtain ⟨i, hi, hO⟩ := k5y hO
    exact hi (h.inj i id b hO.block (by unfold q8; rw [ho]; exact h1))
 simp only [D.ok]
 refine ⟨some ⟨b, off, none⟩, cap, by rw [hlen], by rw [hlen]; exact ⟨h2, h3⟩, trivial, .inr ⟨b, off, rfl, ?_⟩⟩
 have hall := q6n (id := id) (ds := ds) hoks
 rw [D.oks_iff] at hall
 refine x5f (vs := (pre.drop off).take len) (fun d hd' => hd d (List.mem_of_mem_drop (List.mem_of_mem_take hd'))) ?_ fun j u hj => ?_
 ·rw [D.oks_iff]
  refine ⟨by simp [<- hall.1], fun i x u hx hu => ?_⟩
  rw [List.getElem?_take] at hx hu
  split at hx
  ·rename_i hi
   rw [if_pos hi] at hu
   rw [List.getElem?_drop] at hx hu
   exact hall.2 _ _ _ hx hu
  ·cases hx
 ·rw [List.getElem?_take] at hj
  split at hj
  ·rw [List.getElem?_drop] at hj
   have := hcells (off + j) u hj
   rwa [show 0 + (off + j) = off + j by omega] at this
  ·cases hj
theorem k7g {O : Own} {w : World} : ∀ {xs ys : List D} {vs : List Value}, D.oks O w (xs ++ ys) vs -> ∃ us r, vs = us ++ r /\ D.oks O w xs us /\ D.oks O w ys r
 | [], ys, vs, h => ⟨[], vs, rfl, by simp [D.oks], h⟩
 | x :: xs, ys, vs, h => by
  simp only [List.cons_append, D.oks] at h
  obtain ⟨v, r, rfl, h0, h1, h2⟩ := h
  obtain ⟨us, r', rfl, h3, h4⟩ := k7g h2
  exact ⟨v :: us, r', rfl, by simp only [D.oks]; exact ⟨v, us, rfl, h0, h1, h3⟩, h4⟩
theorem k8y {O : Own} {w : World} {b e : Nat} : ∀ {ds : List D} {vs : List Value} {o : Nat}, (∀ d ∈ ds, (z6 d).length = e) -> D.oks O w (ds.flatMap z6) vs -> Cells O w b o vs -> D.row O w b o e ds
 | [], _, _, _, _, _ => by simp [D.row]
 | d :: ds, vs, o, hd, h, hc => by
  rw [List.flatMap_cons] at h
  obtain ⟨us, r, rfl, h1, h2⟩ := k7g h
  have hl := D.oks_length h1
  rw [hd d (by simp)] at hl
  rw [D.row_cons]
  refine ⟨⟨us, hl, fun j u hj => ?_, j5r h1⟩, k8y (fun x hx => hd x (by simp [hx])) h2 fun j u hj => ?_⟩
  ·exact hc j u (by rw [List.getElem?_append_left (List.getElem?_eq_some_iff.1 hj).1]; exact hj)
  ·have := hc (e + j) u (by rw [List.getElem?_append_right (by omega), hl, Nat.add_sub_cancel_left]; exact hj)
   rwa [<- Nat.add_assoc] at this
theorem x7i {e : Nat} (h : Inv C β s w) (ho : sat s id = .gro t e ds.length (ds.flatMap z6)) {e' : Nat} (hd : ∀ d ∈ ds, (z6 d).length = e') {v : Value}
 (hv : AV.ok β (C.forb β s) w (.gow e' id ds.length) v) : D.ok (C.forb (bset β id .no) (k0n id ds s)) w (.sl e' none ds) v := by
 simp only [AV.ok] at hv
 obtain ⟨u, m, h1, h2, h3, _⟩ := hv
 have hob := h.obs id
 rw [ho] at hob
 obtain ⟨u', h4, _, h6⟩ := hob
 rw [h4] at h1
 obtain ⟨rfl, rfl⟩ := h1
 have := h3 rfl
 subst this
 simp only [D.ok]
 rcases h6 with ⟨rfl, h7⟩ | ⟨b, cap, vs, rfl, k2, k3, k4, k5, k6, pre, rest, k7, k8⟩
 ·have : ds = [] := List.length_eq_zero_iff.1 h7
  subst this
  exact ⟨none, 0, rfl, ⟨Nat.le_refl _, by omega⟩, trivial, .inl rfl⟩
 ·refine ⟨_, cap, rfl, ⟨k4, k5⟩, trivial, .inr ⟨b, 0, rfl, k8y hd (q6n k8) fun j u hj => ?_⟩⟩
  have hju : vs[j]? = some u := by
   have : vs.toList[j]? = some u := by rw [k7, List.getElem?_append_left (List.getElem?_eq_some_iff.1 hj).1]; exact hj
   simpa using this
  refine ⟨by simp [World.cell?, k2, hju], ?_, k6 u (by rw [k7]; exact List.mem_append_left _ (List.mem_of_getElem? hj))⟩
  have hbl : q8 β s id b := by unfold q8; rw [ho]; exact ⟨cap, h4⟩
  rintro (hO | hO)
  ·have := h.low b (0 + j) hO
   rcases h.ownd b (0 + j) ⟨id, by rw [ho]; exact ⟨cap, h4⟩⟩ with h8 | h8
   ·exact this.2 h8
   ·omega
  ·obtain ⟨i, hi, hO⟩ := k5y hO
   exact hi (h.inj i id b hO.block hbl)
theorem x0i {e : Nat} (h : Inv C β s w) (ho : z0y s id ds) (hd : ∀ d ∈ ds, (z6 d).length = e) (hn : ¬ (e = 1 /\ 0 + ds.length <= ds.length /\ ∀ d ∈ ds, (z6 d).length = 1)) {v : Value}
 (hv : AV.ok β (C.forb β s) w (.msl e id 0 ds.length) v) : D.ok (C.forb (bset β id .no) (k0n id ds s)) w (.sl e none ds) v := by
 simp only [AV.ok] at hv
 obtain ⟨b, cap, h1, ⟨h2, h3⟩, rfl⟩ := hv
 simp only [D.ok]
 by_cases hds : ds = []
 ·subst hds; exact ⟨_, cap, rfl, ⟨h2, h3⟩, trivial, .inl rfl⟩
 obtain ⟨d0, hd0⟩ := List.exists_mem_of_ne_nil _ hds
 rcases ho with ⟨t, ho, hd1⟩ | ⟨t, e', ho, hd1⟩ | ⟨t, e', ho, hd1, he1, hne⟩
 ·exfalso
  have e1 := hd d0 hd0
  rw [hd1 d0 hd0] at e1
  exact hn ⟨e1.symm, by omega, fun d hd => by rw [hd1 d hd]; rfl⟩
 ·have hob := h.obs id
  rw [ho] at hob
  obtain ⟨u, h4, _⟩ := hob
  rw [h1] at h4
  cases h4
 ·have hob := h.obs id
  rw [ho] at hob
  obtain ⟨b', vs, h4, h5, h6, h7⟩ := hob
  rw [h1] at h4
  cases h4
  obtain ⟨pre, rest, hvs, h7⟩ := h7
  have h6' : ∀ u ∈ pre, one u = true := fun u hu => h6 u (by rw [hvs]; exact List.mem_append_left _ hu)
  have hoks := k3v h6' h7
  refine ⟨_, cap, rfl, ⟨h2, h3⟩, trivial, .inr ⟨b, 0, rfl, k8y hd (q6n hoks) fun j u hj => ?_⟩⟩
  have hju : vs[j]? = some u := by
   have : vs.toList[j]? = some u := by rw [hvs, List.getElem?_append_left (List.getElem?_eq_some_iff.1 hj).1]; exact hj
   simpa using this
  refine ⟨by simp [World.cell?, h5, hju], ?_, h6' u (List.mem_of_getElem? hj)⟩
  rintro (hO | hO)
  ·have := h.low b (0 + j) hO
   rcases h.ownd b (0 + j) ⟨id, by rw [ho]; exact h1⟩ with h8 | h8
   ·exact this.2 h8
   ·omega
  ·obtain ⟨i, hi, hO⟩ := k5y hO
   exact hi (h.inj i id b hO.block (by unfold q8; rw [ho]; exact h1))
mutual
theorem k7n (h : Inv C β s w) (ho : z0y s id ds) : ∀ (x : AV) (v : Value), AV.ok β (C.forb β s) w x v ->
 AV.ok (bset β id .no) (C.forb (bset β id .no) (k0n id ds s)) w (x.frz id ds) v
 | .junk, v => fun _ => by simp [AV.frz, AV.ok]
 | .d x, v => fun hv => by simp only [AV.frz, AV.ok] at hv ⊢; exact k3o hv
 | .own e j xs, v => fun hv => by
  simp only [AV.frz]
  split
  ·simp only [AV.ok] at hv ⊢; exact k3o hv.1
  ·rename_i hj
   simp only [AV.ok] at hv ⊢
   obtain ⟨h1, u, n, h2, h3⟩ := hv
   exact ⟨k3o h1, u, n, by simpa [bset, hj] using h2, h3⟩
 | .ptr j off, v => fun hv => by
  simp only [AV.frz]
  split
  ·simp [AV.ok]
  ·rename_i hj
   simp only [AV.ok] at hv ⊢
   obtain ⟨b, h1, h2⟩ := hv
   exact ⟨b, by simpa [bset, hj] using h1, h2⟩
 | .msl e j off len, v => fun hv => by
  simp only [AV.frz]
  split
  ·rename_i hj
   subst hj
   split
   ·rename_i hc
    obtain ⟨rfl, hc, hc1⟩ := hc
    simp only [AV.ok]
    rcases ho with ⟨t, ho, hd⟩ | ⟨t, e, ho, hd⟩ | ⟨t, e, ho, hd, he1, hne⟩
    ·exact x7j h ho hd hc hv
    ·have hob := h.obs j
     rw [ho] at hob
     obtain ⟨u, h4, _⟩ := hob
     simp only [AV.ok] at hv
     obtain ⟨b, cap, h1, _⟩ := hv
     rw [h1] at h4
     cases h4
    ·obtain ⟨d, hd'⟩ := List.exists_mem_of_ne_nil _ hne
     exact absurd ((hd d hd').symm.trans (hc1 d hd')) he1
   ·rename_i hc1
    split
    ·rename_i hc
     obtain ⟨rfl, rfl, hc⟩ := hc
     simp only [AV.ok]
     exact x0i h ho hc hc1 hv
    ·simp [AV.ok]
  ·rename_i hj
   simp only [AV.ok] at hv ⊢
   obtain ⟨b, cap, h1, h2⟩ := hv
   exact ⟨b, cap, by simpa [bset, hj] using h1, h2⟩
 | .pv cs, v => fun hv => by
  simp only [AV.frz, AV.ok] at hv ⊢
  obtain ⟨b, o, vs, h1, h2, h3⟩ := hv
  exact ⟨b, o, vs, h1, h2.mono (fun _ _ _ hc hn => ⟨hc, fun h => hn (k8z h)⟩), q6n h3⟩
 | .agg cs, v => fun hv => by
  simp only [AV.frz, AV.ok] at hv ⊢
  obtain ⟨vs, h1, h2, h3⟩ := hv
  exact ⟨vs, h1, h2, q8j h ho cs _ h3⟩
 | .tup cs, v => fun hv => by
  simp only [AV.frz, AV.ok] at hv ⊢
  obtain ⟨vs, h1, h3⟩ := hv
  exact ⟨vs, h1, q8j h ho cs _ h3⟩
 | .fn f a b, v => fun hv => by
  simp only [AV.frz, AV.ok] at hv ⊢
  obtain ⟨fs, cs, h1, h2, h3⟩ := hv
  exact ⟨fs, cs, h1, q8j h ho a _ h2, q8j h ho b _ h3⟩
 | .gow e j n, v => fun hv => by
  simp only [AV.frz]
  split
  ·rename_i hj
   subst hj
   split
   ·rename_i hc
    obtain ⟨rfl, hc⟩ := hc
    simp only [AV.ok]
    rcases ho with ⟨t, ho, hd⟩ | ⟨t, e, ho, hd⟩ | ⟨t, e, ho, hd, he1, hne⟩
    ·have hob := h.obs j
     rw [ho] at hob
     obtain ⟨b, vs, h4, _⟩ := hob
     simp only [AV.ok] at hv
     obtain ⟨u, m, h1, _⟩ := hv
     rw [h4] at h1
     exact h1.elim
    ·exact x7i h ho hc hv
    ·have hob := h.obs j
     rw [ho] at hob
     obtain ⟨b, vs, h4, _⟩ := hob
     simp only [AV.ok] at hv
     obtain ⟨u, m, h1, _⟩ := hv
     rw [h4] at h1
     exact h1.elim
   ·simp [AV.ok]
  ·rename_i hj
   simp only [AV.ok] at hv ⊢
   obtain ⟨u, m, h1, h2⟩ := hv
   exact ⟨u, m, by simpa [bset, hj] using h1, h2⟩
 | .gptr j k off, v => fun hv => by
  simp only [AV.frz]
  split
  ·simp [AV.ok]
  ·rename_i hj
   simp only [AV.ok] at hv ⊢
   obtain ⟨u, m, b, off', h1, h2⟩ := hv
   exact ⟨u, m, b, off', by simpa [bset, hj] using h1, h2⟩
 | .ful e xs, v => fun hv => by
  simp only [AV.frz, AV.ok] at hv ⊢
  obtain ⟨a, h1, h2⟩ := hv
  exact ⟨a, h1, k3o h2⟩
 | .dp x, v => fun _ => by simp [AV.frz, AV.ok]
theorem q8j (h : Inv C β s w) (ho : z0y s id ds) : ∀ (xs : List AV) (vs : List Value), AV.oks β (C.forb β s) w xs vs ->
 AV.oks (bset β id .no) (C.forb (bset β id .no) (k0n id ds s)) w (AV.frzs id ds xs) vs
 | [], vs => fun hv => by simpa [AV.frzs, AV.oks] using hv
 | x :: xs, vs => fun hv => by
  simp only [AV.frzs, AV.oks] at hv ⊢
  obtain ⟨v, r, h1, h2, h3⟩ := hv
  exact ⟨v, r, h1, k7n h ho x v h2, q8j h ho xs r h3⟩
end
theorem Inv.frz (h : Inv C β s w) (hid : C.k <= id) (ho : z0y s id ds) : Inv C (bset β id .no) (k0n id ds s) w where
 size := h.size
 io := h.io
 keep := h.keep
 blks := h.blks
 ownd := fun b o ho => let ⟨i, _, h1⟩ := k5y ho; h.ownd b o ⟨i, h1⟩
 ownB := fun i b hb => h.ownB i b (q8c hb).2
 pl := fun i hi => by
  have : i ≠ id := by omega
  simpa [bset, this] using h.pl i hi
 low := h.low
 obs := fun i => by
  rw [k0l]
  by_cases hi : i = id
  ·subst hi; simp [k4s, bset]
  ·simp only [hi, if_false]
   have hob := h.obs i
   cases hs : sat s i with
   | dead => rw [hs] at hob; simpa [Ob.frz, k4s, bset, hi] using hob
   | obj t' cs =>
    rw [hs] at hob
    obtain ⟨b, vs, h1, h2, h0, h3⟩ := hob
    exact ⟨b, vs, by simpa [bset, hi] using h1, h2, h0, h3.imp fun _ hx => q8j h ho _ _ hx⟩
   | tok t' e n =>
    rw [hs] at hob
    obtain ⟨u, h1, h2⟩ := hob
    exact ⟨u, by simpa [bset, hi] using h1, h2⟩
   | gro t' e n cs =>
    rw [hs] at hob
    obtain ⟨u, h1, hl, h2⟩ := hob
    refine ⟨u, by simpa [bset, hi] using h1, hl, ?_⟩
    rcases h2 with h2 | ⟨b, cap, vs, k1, k2, k3, k4, k5, k6, pre, rest, k7, k8⟩
    ·exact .inl h2
    ·exact .inr ⟨b, cap, vs, k1, k2, k3, k4, k5, k6, pre, rest, k7, q6n k8⟩
   | nst t' e n cs =>
    rw [hs] at hob
    obtain ⟨u, bs, h1, h0, h2⟩ := hob
    refine ⟨u, bs, by simpa [bset, hi] using h1, h0, ?_⟩
    rw [k5k]
    exact h2.imp (f := AV.frz id ds) (β := β) (O := C.forb β s) (w := w) (fun x v => z8h (k7n h ho x v)) (fun _ _ => rfl) (fun _ _ _ => rfl)
   | prv e n cs =>
    rw [hs] at hob
    obtain ⟨u, bs, h1, h0, h2⟩ := hob
    refine ⟨u, bs, by simpa [bset, hi] using h1, h0, ?_⟩
    rw [k5k]
    exact h2.imp (f := AV.frz id ds) (β := β) (O := C.forb β s) (w := w) (fun x v => z8h (k7n h ho x v)) (fun _ _ => rfl) (fun _ _ _ _ => rfl)
 inj := fun i j b hi hj => h.inj i j b (q8c hi).2 (q8c hj).2
end
theorem q4v (id : Nat) (ds : List D) : ∀ (xs : List AV) (i : Nat), (AV.frzs id ds xs)[i]? = (xs[i]?).map (AV.frz id ds)
 | [], _ => by simp [AV.frzs]
 | x :: xs, 0 => by simp [AV.frzs]
 | x :: xs, i + 1 => by simp [AV.frzs, q4v id ds xs i]
theorem q8k (id : Nat) (ds : List D) : ∀ (xs : List AV), (AV.frzs id ds xs).length = xs.length
 | [] => rfl
 | x :: xs => by simp [AV.frzs, q8k id ds xs]
theorem y0.freezeF {k : Nat} {env : List AV} {s : j9} (id : Nat) {ds : List D} (hid : k <= id) (ho : z0y s id ds) :
 y0 k env s (AV.frzs id ds env) (k0n id ds s) := fun C β a w hC hst => by
 subst hC
 refine ⟨bset β id .no, hst.defers, hst.inv.frz hid ho, by rw [q8k, hst.len], fun i x hx => ?_⟩
 rw [q4v] at hx
 cases hx2 : env[i]? with
 | none => rw [hx2] at hx; cases hx
 | some y => rw [hx2] at hx; cases hx; exact k7n hst.inv ho y _ (hst.env i y hx2)
def aD {α : Type} (f : α -> D) (x : α) : AV := .d (f x)
theorem j5e {α : Type} (f : α -> D) (xs : List α) : xs.map (aD f) = (xs.map f).map .d := by rw [List.map_map]; rfl
theorem x7k {α : Type} [Inhabited α] {f : α -> D} {xs : List α} {i : Nat} (h : i < xs.length) : (xs.map (aD f)).getD i .junk = .d (f (xs.getD i default)) := by
 simp [lgd, List.getElem?_map, List.getElem?_eq_getElem h, aD]
theorem x5l {α : Type} {f : α -> D} {xs : List α} {i : Nat} {v : α} (h : i < xs.length) : List.take i (xs.map (aD f)) ++ (AV.d (f v) :: List.drop (i + 1) (xs.map (aD f))) = (xs.set i v).map (aD f) := by
 rw [List.map_set, List.set_eq_take_append_cons_drop, if_pos (by simpa using h)]
 rfl
theorem x8z {k : IntKind} {n : Nat} {v : Int} : (List.replicate n [AV.d (.lit (.int k v))]).flatten = (List.replicate n v).map (aD fun v => .lit (.int k v)) := by
 induction n with
 | zero => rfl
 | succ n ih => simp only [List.replicate_succ, List.flatten_cons, List.map_cons, ih]; rfl
theorem h3q {α : Type} {f : α -> D} {x : AV} {v : α} (h : AV.le x (.d (f v))) : ∀ n, w8 (List.replicate n [x]).flatten ((List.replicate n v).map (aD f))
 | 0 => trivial
 | n + 1 => by simp only [List.replicate_succ, List.flatten_cons, List.map_cons, List.cons_append, List.nil_append]; exact ⟨h, h3q h n⟩
theorem z0t {xs : List AV} : w8 xs xs ↔ True := ⟨fun _ => trivial, fun _ => .refl _⟩
theorem x8y {n : Nat} {v : Int} : (List.replicate n [AV.d (iD v)]).flatten = (List.replicate n v).map (aD iD) := x8z
theorem k9c {id : Nat} {ds : List D} : AV.frz id ds .junk = .junk := by simp only [AV.frz]
theorem x7h {id : Nat} {ds : List D} {x : D} : AV.frz id ds (.d x) = .d x := by simp only [AV.frz]
theorem z4u {id e j : Nat} {ds xs : List D} : AV.frz id ds (.own e j xs) = if j = id then .d (.sl e none xs) else .own e j xs := by simp only [AV.frz]
theorem z4v {id j off : Nat} {ds : List D} : AV.frz id ds (.ptr j off) = if j = id then .junk else .ptr j off := by simp only [AV.frz]
theorem k5i {id e j off len : Nat} {ds : List D} (h : ¬ j = id) : AV.frz id ds (.msl e j off len) = .msl e j off len := by simp only [AV.frz, if_neg h]
class Cel {α : Type} (f : α -> D) (e : outParam Nat) : Prop where
 len : ∀ x, (z6 (f x)).length = e
theorem k3p {α : Type} {id n : Nat} {f : α -> D} [Cel f 1] {xs : List α} (h : xs.length = n) : AV.frz id (xs.map f) (.msl 1 id 0 n) = .d (z7 1 f xs) := by
 simp only [AV.frz, if_true, List.drop_zero]
 rw [if_pos ⟨trivial, by simp [h], by rintro d hd; obtain ⟨x, _, rfl⟩ := List.mem_map.1 hd; exact Cel.len x⟩, List.take_of_length_le (by simp [h])]
 rfl
theorem z6x {α : Type} {id e n : Nat} {f : α -> D} [Cel f e] {xs : List α} (h : n = xs.length) : AV.frz id (xs.map f) (.msl e id 0 n) = .d (z7 e f xs) := by
 subst h
 by_cases he : e = 1
 ·subst he; exact k3p rfl
 ·simp only [AV.frz, if_true]
  rw [if_neg fun h => he h.1, if_pos ⟨trivial, by simp, by rintro d hd; obtain ⟨x, _, rfl⟩ := List.mem_map.1 hd; exact Cel.len x⟩]
  rfl
theorem j4a {id : Nat} {ds cs : List D} : AV.frz id ds (.pv cs) = .pv cs := by simp only [AV.frz]
theorem z4t {id : Nat} {ds : List D} {cs : List AV} : AV.frz id ds (.agg cs) = .agg (AV.frzs id ds cs) := by simp only [AV.frz]
theorem z4w {id : Nat} {ds : List D} {cs : List AV} : AV.frz id ds (.tup cs) = .tup (AV.frzs id ds cs) := by simp only [AV.frz]
theorem j3z {id f : Nat} {ds : List D} {a b : List AV} : AV.frz id ds (.fn f a b) = .fn f (AV.frzs id ds a) (AV.frzs id ds b) := by simp only [AV.frz]
theorem k9d {id : Nat} {ds : List D} : AV.frzs id ds [] = [] := by simp only [AV.frzs]
theorem k5j {id : Nat} {ds : List D} {x : AV} {xs : List AV} : AV.frzs id ds (x :: xs) = AV.frz id ds x :: AV.frzs id ds xs := by simp only [AV.frzs]
theorem j4b {α : Type} {id : Nat} {ds : List D} {f : α -> D} : ∀ xs : List α, AV.frzs id ds (xs.map (aD f)) = xs.map (aD f)
 | [] => by simp only [List.map_nil, AV.frzs]
 | x :: xs => by simp only [List.map_cons, AV.frzs, j4b xs, aD, AV.frz]
theorem x8b {α : Type} {f : α -> D} {xs : List α} : (xs.map f).map AV.d = xs.map (aD f) := (j5e f xs).symm
theorem j5x {α : Type} {ρ : Nat -> Option Nat} {f : α -> D} : ∀ xs : List α, AV.rens ρ (xs.map (aD f)) = xs.map (aD f)
 | [] => by simp only [List.map_nil, AV.rens]
 | x :: xs => by simp only [List.map_cons, AV.rens, j5x xs, aD, AV.ren]
theorem j6n {α : Type} {f : α -> D} : ∀ xs : List α, AV.undo (xs.map (aD f)) = some (xs.map f)
 | [] => rfl
 | x :: xs => by simp only [List.map_cons, aD, AV.undo, Option.map_eq_some_iff]; exact ⟨_, j6n xs, rfl⟩
theorem mk_aD {α : Type} {f : α -> D} {xs : List α} : AV.mk (xs.map (aD f)) = .d (.agg (xs.map f)) := by unfold AV.mk; rw [j6n]
def arD {α : Type} (f : α -> D) (xs : List α) : D := .agg (xs.map f)
theorem k8u {P : Program} {k0 f : Nat} {args env : List AV} {s : j9} {d : Option Nat} {R : List AV -> j9 -> Prop} {α : Type} (id : Nat) {t : Nat} (g : α -> D) (xs : List α) (hid : k0 <= id)
 (ho : sat s id = .obj t (xs.map (aD g))) (hd : ∀ x, z6 (g x) = [g x]) (h : a3q P k0 f (AV.frzs id (xs.map g) args) (AV.frzs id (xs.map g) env) (k0n id (xs.map g) s) d R) :
 a3q P k0 f args env s d R := fun C β a w vs hC hst hvs => by
 subst hC
 have ho' : sat s id = .obj t ((xs.map g).map .d) := by rw [ho, j5e]
 have hd' : ∀ d ∈ xs.map g, z6 d = [d] := fun d h => by obtain ⟨x, _, rfl⟩ := List.mem_map.1 h; exact hd x
 refine h C (bset β id .no) a w vs rfl ⟨hst.defers, hst.inv.frz hid (.inl ⟨t, ho', hd'⟩), by rw [q8k, hst.len], fun i x hx => ?_⟩ (q8j hst.inv (.inl ⟨t, ho', hd'⟩) _ _ hvs)
 rw [q4v] at hx
 cases hx2 : env[i]? with
 | none => rw [hx2] at hx; cases hx
 | some y => rw [hx2] at hx; cases hx; exact k7n hst.inv (.inl ⟨t, ho', hd'⟩) y _ (hst.env i y hx2)
attribute [go_sem] k9c x7h z4u z4v k5i k3p j4a z4t z4w j3z k9d k5j j4b x8b j5x mk_aD Ob.frz k0n x7k x5l z0t List.flatten_cons List.flatten_nil x8y arD Nat.mul_one List.length_set List.length_replicate
def q0o {α : Type} (f : α -> D) (xs : List α) : List D := (xs.map f).flatMap z6
theorem z6y {α : Type} {f : α -> D} : q0o f [] = [] := rfl
theorem f7q {α : Type} {f : α -> D} {x : α} {xs : List α} : q0o f (x :: xs) = z6 (f x) ++ q0o f xs := by simp [q0o]
theorem q2m {α : Type} {f : α -> D} {xs ys : List α} : q0o f (xs ++ ys) = q0o f xs ++ q0o f ys := by simp [q0o]
theorem k5n {α : Type} {f : α -> D} {e : Nat} (he : ∀ x, (z6 (f x)).length = e) : ∀ xs : List α, (q0o f xs).length = xs.length * e
 | [] => by simp [q0o]
 | x :: xs => by rw [f7q, lap, he, k5n he xs, List.length_cons, Nat.add_mul]; omega
theorem q9z {α : Type} {f : α -> D} {e : Nat} (he : ∀ x, (z6 (f x)).length = e) : ∀ (xs : List α) (i k : Nat) [Inhabited α], i < xs.length -> k <= e ->
 List.drop (i * e + k) (q0o f xs) = (z6 (f (xs.getD i default))).drop k ++ q0o f (xs.drop (i + 1))
 | [], i, k, _, h, _ => by simp at h
 | x :: xs, 0, k, _, h, hk => by
  rw [f7q, Nat.zero_mul, Nat.zero_add, List.drop_append_of_le_length (by rw [he]; exact hk)]
  simp
 | x :: xs, i + 1, k, _, h, hk => by
  have e1 : (i + 1) * e + k = (z6 (f x)).length + (i * e + k) := by rw [he, Nat.add_mul]; omega
  rw [f7q, e1, List.drop_append, List.drop_of_length_le (by omega), List.nil_append, Nat.add_sub_cancel_left, q9z he xs i k (by simpa using h) hk]
  simp
theorem k5o {α : Type} {f : α -> D} {e : Nat} (he : ∀ x, (z6 (f x)).length = e) : ∀ (xs : List α) (i k : Nat) [Inhabited α], i < xs.length -> k <= e ->
 List.take (i * e + k) (q0o f xs) = q0o f (xs.take i) ++ (z6 (f (xs.getD i default))).take k
 | [], i, k, _, h, _ => by simp at h
 | x :: xs, 0, k, _, h, hk => by
  rw [f7q, Nat.zero_mul, Nat.zero_add, List.take_append_of_le_length (by rw [he]; exact hk)]
  simp [q0o]
 | x :: xs, i + 1, k, _, h, hk => by
  have e1 : (i + 1) * e + k = (z6 (f x)).length + (i * e + k) := by rw [he, Nat.add_mul]; omega
  rw [f7q, e1, List.take_append, List.take_of_length_le (by omega), Nat.add_sub_cancel_left, k5o he xs i k (by simpa using h) hk, List.take_succ_cons, f7q, laa]
  simp
theorem j4e {α : Type} [Inhabited α] {f : α -> D} {e : Nat} (he : ∀ x, (z6 (f x)).length = e) {xs : List α} {i k : Nat} (hi : i < xs.length) (hk : k < e) {d : D} :
 (q0o f xs).getD (i * e + k) d = (z6 (f (xs.getD i default))).getD k d := by
 have h := q9z he xs i k hi (by omega)
 have h1 : (q0o f xs).getD (i * e + k) d = (List.drop (i * e + k) (q0o f xs)).getD 0 d := by simp [lgd]
 have h2 : k < (z6 (f (xs.getD i default))).length := by rw [he]; exact hk
 rw [h1, h]
 simp only [lgd]
 rw [List.getElem?_append_left (by rw [List.length_drop, he]; omega), List.getElem?_drop]
 simp
theorem Inv.toGro {C : Ctx} {β : x5} {s : j9} {w : World} (h : Inv C β s w) {id t e : Nat} (ho : sat s id = .tok t e 0) :
 Inv C β (j8 s id (.gro t e 0 [])) w /\ C.forb β (j8 s id (.gro t e 0 [])) = C.forb β s := by
 have hown : ∀ b o, own β (j8 s id (.gro t e 0 [])) b o ↔ own β s b o := fun b o => by
  unfold own
  refine exists_congr fun i => ?_
  rw [u5]
  by_cases hi : i = id
  ·subst hi; rw [ho]; simp
  ·rw [if_neg hi]
 have hblk : ∀ i b, q8 β (j8 s id (.gro t e 0 [])) i b ↔ q8 β s i b := fun i b => by
  unfold q8
  rw [u5]
  by_cases hi : i = id
  ·subst hi; rw [ho]; simp
  ·rw [if_neg hi]
 have hf : C.forb β (j8 s id (.gro t e 0 [])) = C.forb β s := by funext b o; exact propext (or_congr Iff.rfl (hown b o))
 refine ⟨⟨h.size, h.io, h.keep, h.blks, fun b o ho => h.ownd b o ((hown b o).1 ho), fun id b hb => h.ownB id b ((hblk id b).1 hb), h.pl, h.low, fun i => ?_,
  fun i j b hi hj => h.inj i j b ((hblk i b).1 hi) ((hblk j b).1 hj)⟩, hf⟩
 rw [hf, u5]
 have h1 := h.obs i
 by_cases hi : i = id
 ·subst hi
  rw [ho] at h1
  obtain ⟨u, h2, h3⟩ := h1
  simp only [if_true]
  refine ⟨u, h2, by simp, ?_⟩
  rcases h3 with h3 | ⟨b, cap, vs, k1, k2, k3, k4, k5, k6⟩
  ·exact .inl h3
  ·exact .inr ⟨b, cap, vs, k1, k2, k3, k4, k5, k6, [], vs.toList, rfl, by simp [D.oks]⟩
 ·rw [if_neg hi]; exact h1
theorem z0y.gro {α : Type} {s : j9} {id t e : Nat} (f : α -> D) (xs : List α) (ho : sat s id = .gro t e xs.length (q0o f xs)) (he : ∀ x, (z6 (f x)).length = e) : z0y s id (xs.map f) :=
 .inr (.inl ⟨t, e, by rw [List.length_map]; exact ho, fun d hd => by obtain ⟨x, _, rfl⟩ := List.mem_map.1 hd; exact he x⟩)
theorem y0.freezeG {α : Type} {k : Nat} {env : List AV} {s : j9} (id : Nat) {t e : Nat} (f : α -> D) (xs : List α) (hid : k <= id) (ho : sat s id = .gro t e xs.length (q0o f xs)) (he : ∀ x, (z6 (f x)).length = e) :
 y0 k env s (AV.frzs id (xs.map f) env) (k0n id (xs.map f) s) := y0.freezeF id hid (.gro f xs ho he)
theorem x0k {α : Type} {id e : Nat} {f : α -> D} (he : ∀ x, (z6 (f x)).length = e) {xs : List α} : AV.frz id (xs.map f) (.gow e id xs.length) = .d (z7 e f xs) := by
 simp only [AV.frz, if_true]
 rw [if_pos ⟨by simp, fun d hd => by obtain ⟨x, _, rfl⟩ := List.mem_map.1 hd; exact he x⟩]
 rfl
theorem k5h {id e j n : Nat} {ds : List D} (h : ¬ j = id) : AV.frz id ds (.gow e j n) = .gow e j n := by simp only [AV.frz, if_neg h]
theorem k9b {id j k off : Nat} {ds : List D} : AV.frz id ds (.gptr j k off) = if j = id then .junk else .gptr j k off := by simp only [AV.frz]
def x9 (k : Nat) (x : AV) (s : j9) (y : AV) (t : j9) : Prop := ∀ (C : Ctx) (β : x5) (w : World) (v : Value), C.k = k -> Inv C β s w -> AV.ok β (C.forb β s) w x v ->
 ∃ β', Inv C β' t w /\ AV.ok β' (C.forb β' t) w y v
theorem x9.refl {k : Nat} {x : AV} {s : j9} : x9 k x s x s := fun _ β _ _ _ h1 h2 => ⟨β, h1, h2⟩
theorem x9.trans {k : Nat} {x y z : AV} {s t u : j9} (h1 : x9 k x s y t) (h2 : x9 k y t z u) : x9 k x s z u := fun C β w v hC h3 h4 =>
 let ⟨β1, h5, h6⟩ := h1 C β w v hC h3 h4; h2 C β1 w v hC h5 h6
theorem x9.told {k : Nat} {x y : AV} {s t : j9} (hx : AV.le x y) (hs : e2q s t) : x9 k x s y t := fun C β w v _ h3 h4 => by
 obtain ⟨h1, hf⟩ := h3.told hs.sat
 exact ⟨β, h1, by rw [hf]; exact hx _ _ _ _ h4⟩
theorem x9.drops {k : Nat} {x : AV} {s : j9} (ids : List Nat) (hi : ∀ i ∈ ids, k <= i) : x9 k x s (k6b ids x) (k0m ids s) := fun C β w v hC h3 h4 => by
 subst hC
 obtain ⟨β1, h1, h2⟩ := h3.drops hi
 exact ⟨β1, h1, h2 _ _ h4⟩
theorem x9.frz {k : Nat} {x : AV} {s : j9} (id : Nat) {ds : List D} (hid : k <= id) (ho : z0y s id ds) : x9 k x s (x.frz id ds) (k0n id ds s) := fun C β w v hC h3 h4 => by
 subst hC
 exact ⟨_, h3.frz hid ho, k7n h3 ho _ _ h4⟩
theorem x6.done {P : Program} {f : Nat} {args : List AV} {s : j9} {k : Nat} {y : AV} {t : j9} (h : x6 P f args s k fun x s' => x9 k x s' y t) : x6 P f args s k fun x s' => x = y /\ s' = t := fun C vs h1 h2 h3 h4 =>
 (h C vs h1 h2 h3 h4).mono fun _ w' ⟨v, _, β', _, e1, e2, e3, e4⟩ => let ⟨β2, h5, h6⟩ := e4 C β' w' v h2 e2 e3; ⟨v, y, β2, t, e1, h5, h6, rfl, rfl⟩
theorem t6.callsD {P : Program} {f : Nat} {mc : j5} {n : Nat} {rs : List k6n} (h : t6 P f mc n rs) {args : List AV} {s t : j9} {k : Nat} {y : AV}
 (hm : MWp P k mc (x0h rs fun x s' => x9 k x s' y t) (args ++ List.replicate (n - args.length) .junk) s) : x6 P f args s k fun x s' => x = y /\ s' = t := x6.done (h.calls hm)
def k0g (i j : Nat) : Nat -> Option Nat := fun q => if q = i then some j else if q = j then none else some q
def q7k (i j : Nat) (β : x5) : x5 := fun q => if q = j then β i else if q = i then .no else β q
def q0m (i j : Nat) (ob : Ob) : j9 -> j9
 | [] => [(j, ob)]
 | (q, x) :: r => if q = i ∨ q = j then q0m i j ob r else (q, x.ren (k0g i j)) :: q0m i j ob r
theorem k6g (i j : Nat) (ob : Ob) (q : Nat) : ∀ s : j9, sat (q0m i j ob s) q = if q = j then ob else if q = i then .dead else (sat s q).ren (k0g i j)
 | [] => by by_cases h : q = j <;> simp [q0m, sat, h, Ob.ren]
 | (p, x) :: r => by
  simp only [q0m]
  by_cases hp : p = i ∨ p = j
  ·rw [if_pos hp, k6g i j ob q r]
   by_cases h1 : q = j
   ·simp [h1]
   ·by_cases h2 : q = i
    ·simp [h2]
    ·have : q ≠ p := by rintro rfl; exact hp.elim h2 h1
     simp only [h1, h2, if_false, sat, this]
  ·rw [if_neg hp]
   simp only [sat, k6g i j ob q r]
   by_cases h1 : q = p
   ·subst h1
    have h2 : ¬ q = i := fun e => hp (.inl e)
    have h3 : ¬ q = j := fun e => hp (.inr e)
    simp [h2, h3]
   ·simp [h1]
theorem Inv.moved {C : Ctx} {β : x5} {s s' : j9} {w : World} (h : Inv C β s w) {i j : Nat} (hi : C.k <= i) (hj : C.k <= j) (hij : i ≠ j) (hd : sat s j = .dead)
 (hs : ∀ q, sat s' q = if q = j then (sat s i).ren (k0g i j) else if q = i then .dead else (sat s q).ren (k0g i j)) :
 Inv C (q7k i j β) s' w /\ ∀ x v, AV.ok β (C.forb β s) w x v -> AV.ok (q7k i j β) (C.forb (q7k i j β) s') w (x.ren (k0g i j)) v := by
 -- where an id of the new store comes from
 have from_ : ∀ q, (q = i /\ sat s' q = .dead) ∨ ∃ p, sat s' q = (sat s p).ren (k0g i j) /\ q7k i j β q = β p /\ (p = if q = j then i else q) := fun q => by
  by_cases h1 : q = j
  ·subst h1; exact .inr ⟨i, by rw [hs, if_pos rfl], by simp [q7k], by simp⟩
  ·by_cases h2 : q = i
   ·subst h2; exact .inl ⟨rfl, by rw [hs, if_neg h1, if_pos rfl]⟩
   ·exact .inr ⟨q, by rw [hs, if_neg h1, if_neg h2], by simp [q7k, h1, h2], by simp [h1]⟩
 have hown : ∀ b o, own (q7k i j β) s' b o ↔ own β s b o := fun b o => by
  constructor
  ·rintro ⟨q, hq⟩
   rcases from_ q with ⟨_, h1⟩ | ⟨p, h1, h2, _⟩
   ·rw [h1] at hq; exact hq.elim
   ·exact ⟨p, (a8q (i := p) (j := q) h2 h1).1 hq⟩
  ·rintro ⟨p, hp⟩
   by_cases h1 : p = i
   ·subst h1
    exact ⟨j, (a8q (i := p) (j := j) (ρ := k0g p j) (by simp [q7k]) (by rw [hs, if_pos rfl])).2 hp⟩
   ·by_cases h2 : p = j
    ·subst h2; rw [hd] at hp; exact hp.elim
    ·exact ⟨p, (a8q (i := p) (j := p) (ρ := k0g i j) (by simp [q7k, h1, h2]) (by rw [hs, if_neg h2, if_neg h1])).2 hp⟩
 have hblk : ∀ q b, q8 (q7k i j β) s' q b -> ∃ p, q8 β s p b /\ (p = if q = j then i else q) /\ (q = j ∨ q ≠ i) := fun q b hq => by
  rcases from_ q with ⟨_, h1⟩ | ⟨p, h1, h2, h3⟩
  ·unfold q8 at hq; rw [h1] at hq; exact hq.elim
  ·refine ⟨p, (q4r h2 h1).1 hq, h3, ?_⟩
   by_cases h4 : q = j
   ·exact .inl h4
   ·refine .inr fun h5 => ?_
    subst h5
    unfold q8 at hq
    rw [hs, if_neg h4, if_pos rfl] at hq
    exact hq.elim
 have hf : C.forb (q7k i j β) s' = C.forb β s := by funext b o; exact propext (or_congr Iff.rfl (hown b o))
 have hρ : ∀ a b, k0g i j a = some b -> q7k i j β b = β a := fun a b hab => by
  unfold k0g at hab
  split at hab
  ·rename_i h1; cases hab; subst h1; simp [q7k]
  ·split at hab
   ·cases hab
   ·rename_i h1 h2; cases hab; simp [q7k, h1, h2]
 refine ⟨⟨h.size, h.io, h.keep, h.blks, fun b o ho => h.ownd b o ((hown b o).1 ho), fun q b hb => let ⟨p, hp, _⟩ := hblk q b hb; h.ownB p b hp, fun q hq => ?_, h.low, fun q => ?_, fun q q' b h1 h2 => ?_⟩,
  fun x v hx => by rw [hf]; exact AV.ok_ren hρ x v hx⟩
 ·have h1 : q ≠ i := by omega
  have h2 : q ≠ j := by omega
  simpa [q7k, h1, h2] using h.pl q hq
 ·rw [hf]
  rcases from_ q with ⟨h0, h1⟩ | ⟨p, h1, h2, _⟩
  ·rw [h1]; subst h0; simp [k4s, q7k, hij]
  ·rw [h1]
   have ho := h.obs p
   cases hp : sat s p with
   | dead => rw [hp] at ho; exact h2.trans ho
   | obj t cs => rw [hp] at ho; obtain ⟨b, vs, k1, k2, k3, k4⟩ := ho; exact ⟨b, vs, h2.trans k1, k2, k3, k4.imp fun _ hx => AV.oks_ren hρ _ _ hx⟩
   | tok t e n => rw [hp] at ho; obtain ⟨u, k1, k2⟩ := ho; exact ⟨u, h2.trans k1, k2⟩
   | gro t e n cs => rw [hp] at ho; obtain ⟨u, k1, k2⟩ := ho; exact ⟨u, h2.trans k1, k2⟩
   | nst t e n cs =>
    rw [hp] at ho
    obtain ⟨u, bs, k1, k0, k2⟩ := ho
    refine ⟨u, bs, h2.trans k1, k0, ?_⟩
    show j1x _ _ _ _ _ _ _ _ (AV.rens _ cs)
    rw [s6]
    exact k2.imp (fun x v => d2q fun hx => AV.ok_ren hρ _ _ hx) (fun _ _ => rfl) (fun _ _ _ => rfl)
   | prv e n cs =>
    rw [hp] at ho
    obtain ⟨u, bs, k1, k0, k2⟩ := ho
    refine ⟨u, bs, h2.trans k1, k0, ?_⟩
    show k8k _ _ _ _ _ _ _ (AV.rens _ cs)
    rw [s6]
    exact k2.imp (fun x v => d2q fun hx => AV.ok_ren hρ _ _ hx) (fun _ _ => rfl) (fun _ _ _ _ => rfl)
 ·obtain ⟨p, hp, e1, e2⟩ := hblk q b h1
  obtain ⟨p', hp', e3, e4⟩ := hblk q' b h2
  have := h.inj p p' b hp hp'
  subst this
  rw [e1] at e3
  by_cases h5 : q = j <;> by_cases h6 : q' = j <;> simp [h5, h6] at e3 e2 e4 ⊢ <;> first | exact e3 | exact absurd e3.symm e4 | exact absurd e3 e2 | skip
theorem x9.move {k : Nat} {x : AV} {s : j9} (i j : Nat) {ob : Ob} (hi : k <= i) (hj : k <= j) (hij : i ≠ j) (hd : sat s j = .dead) (ho : (sat s i).ren (k0g i j) = ob) :
 x9 k x s (x.ren (k0g i j)) (q0m i j ob s) := fun C β w v hC h3 h4 => by
 subst hC
 obtain ⟨h5, h6⟩ := h3.moved (s' := q0m i j ob s) hi hj hij hd fun q => by rw [k6g, ho]
 exact ⟨_, h5, h6 x v h4⟩
class z5y {α : Type} (f : α -> D) : Prop where
 one : ∀ x, z6 (f x) = [f x]
instance : Cel iD 1 := ⟨fun _ => rfl⟩
instance : Cel bD 1 := ⟨fun _ => rfl⟩
instance {k : IntKind} : Cel (kD k) 1 := ⟨fun _ => rfl⟩
instance : Cel sD 1 := ⟨fun _ => rfl⟩
instance {α : Type} {e : Nat} {f : α -> D} : Cel (z7 e f) 1 := ⟨fun _ => rfl⟩
instance : z5y iD := ⟨fun _ => rfl⟩
instance : z5y bD := ⟨fun _ => rfl⟩
instance {k : IntKind} : z5y (kD k) := ⟨fun _ => rfl⟩
instance : z5y sD := ⟨fun _ => rfl⟩
instance {α : Type} {e : Nat} {f : α -> D} : z5y (z7 e f) := ⟨fun _ => rfl⟩
section
variable {α : Type} [Inhabited α] {f : α -> D} {e : Nat} {xs ys : List α} {i k n : Nat} {y : α} {d : D} {ds : List D}
theorem j4f [Cel f e] (hi : i < xs.length) (hk : k < e) : (q0o f xs).getD (i * e + k) d = (z6 (f (xs.getD i default))).getD k d := j4e Cel.len hi hk
omit [Inhabited α] in
theorem k9e [Cel f e] : (q0o f xs).length = xs.length * e := k5n Cel.len xs
omit [Inhabited α] in
theorem x0o : List.flatMap z6 (List.map f ys) = q0o f ys := rfl
omit [Inhabited α] in
theorem x7l : q0o f xs ++ q0o f ys = q0o f (xs ++ ys) := q2m.symm
omit [Inhabited α] in
theorem j4g [z5y f] : q0o f xs = xs.map f := by
 induction xs with
 | nil => rfl
 | cons x xs ih => rw [f7q, z5y.one, ih]; rfl
omit [Inhabited α] in
theorem j4i [z5y f] : q0o f xs ++ f y :: ds = q0o f (xs ++ [y]) ++ ds := by rw [q2m, f7q, z5y.one, z6y, laa]; rfl
omit [Inhabited α] in
theorem z7a [z5y f] (hi : i < xs.length) : List.take i (q0o f xs) ++ f y :: List.drop (i + 1) (q0o f xs) = q0o f (xs.set i y) := by
 rw [j4g, j4g, List.map_set, List.set_eq_take_append_cons_drop, if_pos (by simpa using hi)]
omit [Inhabited α] in
theorem j4h [z5y f] (hi : i < xs.length) : List.take i (q0o f xs) ++ [f y] ++ List.drop (i + 1) (q0o f xs) = q0o f (xs.set i y) := by
 rw [laa]; exact z7a hi
omit [Inhabited α] in
theorem x0j [Cel f e] {id : Nat} : AV.frz id (xs.map f) (.gow e id xs.length) = .d (z7 e f xs) := x0k Cel.len
omit [Inhabited α] in
theorem y0.freezeC [Cel f e] {k0 t : Nat} {env : List AV} {s : j9} (id : Nat) (f' : α -> D) (hf : f' = f) (xs : List α) (hid : k0 <= id) (ho : sat s id = .gro t e xs.length (q0o f xs)) :
 y0 k0 env s (AV.frzs id (xs.map f') env) (k0n id (xs.map f') s) := by subst hf; exact y0.freezeG id f' xs hid ho Cel.len
omit [Inhabited α] in
theorem x9.frzC [Cel f e] {k0 t : Nat} {x : AV} {s : j9} (id : Nat) (f' : α -> D) (hf : f' = f) (xs : List α) (hid : k0 <= id) (ho : sat s id = .gro t e xs.length (q0o f xs)) :
 x9 k0 x s (x.frz id (xs.map f')) (k0n id (xs.map f') s) := by subst hf; exact x9.frz id hid (.gro f' xs ho Cel.len)
end
attribute [go_sem] j4f k9e x0o x7l j4i z7a j4h f7q z6y
attribute [go_sem] k5h k9b
theorem j3h {e id n : Nat} : AV.cells (.gow e id n) = some [.gow e id n] := rfl
theorem z9p {id k off : Nat} : AV.cells (.gptr id k off) = some [.gptr id k off] := rfl
theorem x2s {e id n : Nat} {xs : List AV} : AV.undo (.gow e id n :: xs) = none := rfl
theorem j6p {id k off : Nat} {xs : List AV} : AV.undo (.gptr id k off :: xs) = none := rfl
attribute [go_sem] j3h z9p x2s j6p k0g q0m
theorem x6.doneP {P : Program} {f : Nat} {args : List AV} {s : j9} {k : Nat} {z : AV} (h : x6 P f args s k fun x s' => ∃ y t, x9 k x s' y t /\ AV.le y z) : x6 P f args s k fun x _ => x = z := fun C vs h1 h2 h3 h4 =>
 (h C vs h1 h2 h3 h4).mono fun _ w' ⟨v, _, β', _, e1, e2, e3, _, t, e4, e5⟩ => let ⟨β2, h5, h6⟩ := e4 C β' w' v h2 e2 e3; ⟨v, z, β2, t, e1, h5, e5 _ _ _ _ h6, rfl⟩
theorem t6.pureD {P : Program} {f : Nat} {mc : j5} {n : Nat} {rs : List k6n} (h : t6 P f mc n rs) {args : List D} {r : D}
 (hm : MWp P 0 mc (x0h rs fun x s' => ∃ y t, x9 0 x s' y t /\ AV.le y (.d r)) (args.map .d ++ List.replicate (n - (args.map AV.d).length) .junk) []) : p7 P f args r := x6.doneP (h.calls hm)
theorem t6.pureDN {P : Program} {f : Nat} {mc : j5} {n : Nat} {rs : List k6n} (h : t6 P f mc n rs) {args : List D} {ds : List D}
 (hm : MWp P 0 mc (x0h rs fun x s' => ∃ y t, x9 0 x s' y t /\ AV.le y (.tup (ds.map .d))) (args.map .d ++ List.replicate (n - (args.map AV.d).length) .junk) []) : r9 P f args ds := x6.doneP (h.calls hm)
section
variable {α : Type} {f : α -> D} {e : Nat} {xs : List α}
theorem k9a [Cel f e] {id n : Nat} (h : n = xs.length) : AV.frz id (xs.map f) (.gow e id n) = .d (z7 e f xs) := by subst h; exact x0j
theorem y0.freezeN [Cel f e] {k0 t n : Nat} {env : List AV} {s : j9} {ds : List D} (id : Nat) (f' : α -> D) (hf : f' = f) (xs : List α) (hid : k0 <= id) (ho : sat s id = .gro t e n ds) (hn : n = xs.length) (hs : ds = q0o f xs) :
 y0 k0 env s (AV.frzs id (xs.map f') env) (k0n id (xs.map f') s) := by subst hn; subst hs; exact y0.freezeC id f' hf xs hid ho
theorem x9.frzN [Cel f e] {k0 t n : Nat} {x : AV} {s : j9} {ds : List D} (id : Nat) (f' : α -> D) (hf : f' = f) (xs : List α) (hid : k0 <= id) (ho : sat s id = .gro t e n ds) (hn : n = xs.length) (hs : ds = q0o f xs) :
 x9 k0 x s (x.frz id (xs.map f')) (k0n id (xs.map f') s) := by subst hn; subst hs; exact x9.frzC id f' hf xs hid ho
end
attribute [go_sem] k9a
theorem flatc {d : D} {ds : List D} : List.flatMap z6 (d :: ds) = z6 d ++ List.flatMap z6 ds := List.flatMap_cons
theorem flatn : List.flatMap z6 [] = [] := rfl
attribute [go_sem] flatc flatn
def Okk {α : Type} (t : Prop) (x : Option α) (P : α -> Prop) : Prop := (∀ a, x = some a -> P a) /\ (t -> ∃ a, x = some a)
theorem Okk.some {α : Type} {t : Prop} {a : α} {P : α -> Prop} (h : P a) : Okk t (Option.some a) P := ⟨fun b hb => by cases hb; exact h, fun _ => ⟨a, rfl⟩⟩
theorem Okk.bind {α β : Type} {t : Prop} {x : Option α} {f : α -> Option β} {P : α -> Prop} {Q : β -> Prop} (h : Okk t x P) (hf : ∀ a, P a -> Okk t (f a) Q) : Okk t (x.bind f) Q :=
 ⟨fun b hb => let ⟨a, h1, h2⟩ := Option.bind_eq_some_iff.1 hb; (hf a (h.1 a h1)).1 b h2, fun ht => by
  obtain ⟨a, ha⟩ := h.2 ht
  obtain ⟨b, hb⟩ := (hf a (h.1 a ha)).2 ht
  exact ⟨b, by rw [ha, obz, hb]⟩⟩
theorem Okk.weak {α : Type} {t t' : Prop} {x : Option α} {P : α -> Prop} (h : Okk t x P) (ht : t' -> t) : Okk t' x P := ⟨h.1, fun hx => h.2 (ht hx)⟩
theorem Okk.inr {σ β : Type} {t : Prop} {x : Option β} {P : σ ⊕ β -> Prop} (h : Okk t x fun b => P (.inr b)) : Okk t (x.map Sum.inr) P :=
 ⟨fun a ha => by
  cases x with
  | none => cases ha
  | some b => cases ha; exact h.1 b rfl, fun ht => let ⟨a, ha⟩ := h.2 ht; ⟨.inr a, by rw [ha]; rfl⟩⟩
theorem Okk.eq {α : Type} {x : Option α} {a : α} (h : Okk True x (· = a)) : x = Option.some a := by obtain ⟨b, hb⟩ := h.2 trivial; rw [hb, h.1 b hb]
theorem Okk.get {α : Type} {x : Option α} {P : α -> Prop} (h : Okk True x P) : ∃ a, x = Option.some a /\ P a := by obtain ⟨b, hb⟩ := h.2 trivial; exact ⟨b, hb, h.1 b hb⟩
theorem Okk.amb {α β : Type} {t : Prop} {xs : List α} {a b : Option β} {P : β -> Prop} (h : Okk t b P) (he : xs = [] -> a = b) : Okk t (x5v xs a b) P := by
 unfold x5v
 split
 ·rename_i hx; rw [if_pos (he hx)]; exact h
 ·exact h
def Rnd {σ β : Type} (inv : σ -> Prop) (μ : σ -> Nat) (Q : β -> Prop) (m : Nat) : σ ⊕ β -> Prop
 | .inl s' => inv s' /\ μ s' < m
 | .inr b => Q b
theorem Okk.loop {σ β : Type} {t : Prop} {f : σ -> Option (σ ⊕ β)} {Q : β -> Prop} (inv : σ -> Prop) (μ : σ -> Nat) {s : σ} (h0 : inv s) (h : ∀ s, inv s -> Okk t (f s) (Rnd inv μ Q (μ s))) : Okk t (loopC f s) Q := by
 constructor
 ·intro b hb
  obtain ⟨n, hn⟩ := a6q hb
  clear hb
  induction n generalizing s with
  | zero => exact hn.elim
  | succ n ih =>
   rcases hn with hn | ⟨s', hs, hn⟩
   ·exact (h s h0).1 _ hn
   ·exact ih ((h s h0).1 _ hs).1 hn
 ·intro ht
  have key : ∀ n s, μ s = n -> inv s -> ∃ b, loopC f s = Option.some b := by
   intro n
   induction n using Nat.strongRecOn with
   | _ n ih =>
    intro s hn hs
    obtain ⟨r, hr⟩ := (h s hs).2 ht
    have := (h s hs).1 r hr
    cases r with
    | inl s' => obtain ⟨b, hb⟩ := ih (μ s') (hn ▸ this.2) s' rfl this.1; exact ⟨b, by rw [p9 hr, hb]⟩
    | inr b => exact ⟨b, x8 hr⟩
  exact key _ s rfl h0
theorem Okk.lim {α : Type} {t : Prop} {f : Nat -> Option α} {P : α -> Prop} (m : Nat) (h : ∀ n, Okk (m <= n) (f n) P) : Okk t (j0j f) P := by
 constructor
 ·intro a ha
  obtain ⟨n, hn⟩ := q2n ha
  exact (h n).1 a hn
 ·intro _
  obtain ⟨a, ha⟩ := (h m).2 (Nat.le_refl _)
  have hx : ∃ a n, f n = Option.some a := ⟨a, m, ha⟩
  unfold j0j
  rw [dif_pos hx]
  exact ⟨_, rfl⟩
def nzD {α : Type} (e : Nat) (f : α -> D) (xs : List α) : D := .sl e (some xs.isEmpty) (xs.map f)
section
variable {α : Type} {e id : Nat} {f : α -> D} {xs : List α} {O : Own} {w : World}
theorem x9j : slK (.d (nzD e f xs)) = some (e, xs.map f) := rfl
theorem x8k : nlK (.d (nzD e f xs)) = some xs.isEmpty := rfl
theorem j3k : AV.cells (.d (nzD e f xs)) = some [.d (nzD e f xs)] := rfl
theorem z8y : AV.acells (.d (nzD e f xs)) = none := rfl
theorem z9u : z6 (nzD e f xs) = [nzD e f xs] := rfl
theorem DL.nz (h : 0 < xs.length) : DL (z7 e f xs) (nzD e f xs) := fun O w v hv => by
 simp only [z7, nzD, D.ok] at hv ⊢
 obtain ⟨a, cap, h1, h2, _, h4⟩ := hv
 refine ⟨a, cap, h1, h2, ?_, h4⟩
 have hne : xs ≠ [] := List.length_pos_iff.1 h
 have he : xs.isEmpty = false := by simpa using hne
 rcases h4 with h4 | ⟨b, o, rfl, _⟩
 ·exact absurd (List.map_eq_nil_iff.1 h4) hne
 ·simp [y0c, he]
theorem DL.of_nz : DL (nzD e f xs) (z7 e f xs) := DL.forget
theorem DL.nz_nil {e' : Nat} : DL (.sl e' (some true) []) (nzD e f []) := fun O w v hv => by
 simp only [nzD, D.ok, List.map_nil] at hv ⊢
 obtain ⟨a, cap, h1, h2, h3, h4⟩ := hv
 exact ⟨a, cap, h1, h2, h3, .inl trivial⟩
theorem j4w (h : 0 < xs.length) : AV.le (.d (z7 e f xs)) (.d (nzD e f xs)) ↔ True := ⟨fun _ => trivial, fun _ => AV.le_d (DL.nz h)⟩
theorem j0f (h : 0 < xs.length) : AV.le (.own e id (xs.map f)) (.d (nzD e f xs)) ↔ True := ⟨fun _ => trivial, fun _ => AV.le_ownD fun O w v hv => DL.nz h O w v hv⟩
theorem j0e {e' : Nat} : AV.le (.d (.sl e' (some true) [])) (.d (nzD e f [])) ↔ True := ⟨fun _ => trivial, fun _ => AV.le_d DL.nz_nil⟩
end
theorem x5e {α : Type} {e e' : Nat} {f : α -> D} {O : Own} {w : World} {b : Nat} : ∀ {o : Nat} {xs : List (List α)}, D.row O w b o e (xs.map (nzD e' f)) -> D.row O w b o e (xs.map (z7 e' f))
 | _, [], h => h
 | o, x :: xs, h => by
  simp only [List.map_cons, nzD, z7, D.row] at h ⊢
  obtain ⟨⟨v, h1, h2, h3⟩, h4⟩ := h
  exact ⟨⟨v, h1, h2, DL.of_nz _ _ _ h3⟩, x5e h4⟩
theorem DL.sl_nz {α : Type} {e e' : Nat} {f : α -> D} {nl : Option Bool} {xs : List (List α)} : DL (.sl e nl (xs.map (nzD e' f))) (.sl e none (xs.map (z7 e' f))) := fun O w v hv => by
 simp only [D.ok, List.length_map, List.map_eq_nil_iff] at hv ⊢
 obtain ⟨a, cap, h1, h2, _, h4⟩ := hv
 refine ⟨a, cap, h1, h2, trivial, h4.imp (fun h => h) ?_⟩
 rintro ⟨b, o, h5, h6⟩
 exact ⟨b, o, h5, x5e h6⟩
instance {α : Type} {e : Nat} {f : α -> D} : Cel (nzD e f) 1 := ⟨fun _ => rfl⟩
instance {α : Type} {e : Nat} {f : α -> D} : z5y (nzD e f) := ⟨fun _ => rfl⟩
theorem w8.set : ∀ {xs : List AV} {i : Nat} {a b : AV}, AV.le a b -> w8 (xs.set i a) (xs.set i b)
 | [], _, _, _, _ => trivial
 | _ :: xs, 0, _, _, h => ⟨h, .refl xs⟩
 | x :: _, i + 1, _, _, h => ⟨AV.le_refl x, w8.set h⟩
theorem x7w {α : Type} {f : α -> D} {xs : List α} {i : Nat} {a : AV} {v : α} (h : i < xs.length) (hle : AV.le a (.d (f v))) :
 w8 (List.take i (xs.map (aD f)) ++ (a :: List.drop (i + 1) (xs.map (aD f)))) ((xs.set i v).map (aD f)) := by
 have e1 : List.take i (xs.map (aD f)) ++ (a :: List.drop (i + 1) (xs.map (aD f))) = (xs.map (aD f)).set i a := by
  rw [List.set_eq_take_append_cons_drop, if_pos (by simpa using h)]
 rw [e1, List.map_set]
 exact w8.set hle
attribute [go_sem] x9j x8k j3k z8y z9u j0e
theorem g0q {α β : Type} {f : α -> β} {l : List α} {n : Nat} : List.take n (List.map f l) = List.map f (List.take n l) := List.map_take.symm
theorem v9q {α β : Type} {f : α -> β} {l : List α} {n : Nat} : List.drop n (List.map f l) = List.map f (List.drop n l) := List.map_drop.symm
theorem f2q {α : Type} {l : List α} {n : Nat} (h : l.length <= n) : List.take n l = l := List.take_of_length_le h
theorem f0q {α : Type} {l : List α} {n : Nat} (h : l.length <= n) : List.drop n l = [] := List.drop_of_length_le h
theorem x5m : e2q [] [] := trivial
theorem j8g {i : Nat} {x y : Ob} {r r' : j9} (h : k7b x y) (hr : e2q r r') : e2q ((i, x) :: r) ((i, y) :: r') := ⟨rfl, h, hr⟩
theorem x1a {α : Type} {f : α -> D} {xs : List α} {i : Nat} {a : AV} {v : α} (h : i < xs.length) (hle : AV.le a (.d (f v))) :
 w8 (List.map (aD f) (List.take i xs) ++ [a] ++ List.map (aD f) (List.drop (i + 1) xs)) ((xs.set i v).map (aD f)) := by
 have := x7w (f := f) (xs := xs) (i := i) (a := a) (v := v) h hle
 rw [laa]
 simpa only [List.map_take, List.map_drop, List.cons_append, List.nil_append] using this
theorem enN : w8 [] [] := trivial
theorem enC {x y : AV} {xs ys : List AV} (h : AV.le x y) (h' : w8 xs ys) : w8 (x :: xs) (y :: ys) := ⟨h, h'⟩
theorem dsN : q5v [] [] := trivial
theorem dsC {x y : D} {xs ys : List D} (h : D.le x y) (h' : q5v xs ys) : q5v (x :: xs) (y :: ys) := ⟨h, h'⟩
theorem q8g {e e' : Nat} {nl : Option Bool} : D.le (.sl e nl []) (.sl e' none []) := fun O w vs h => by
 simp only [D.cel] at h ⊢
 obtain ⟨v, h1, h2⟩ := h
 exact ⟨v, h1, DL.nil _ _ _ h2⟩
theorem a4q {e : Nat} {nl : Option Bool} {xs : List D} : D.le (.sl e nl xs) (.sl e none xs) := fun O w vs h => by
 simp only [D.cel] at h ⊢
 obtain ⟨v, h1, h2⟩ := h
 exact ⟨v, h1, DL.forget _ _ _ h2⟩
theorem q8f {xs ys : List D} (h : CLe xs ys) : D.le (.agg xs) (.agg ys) := fun O w vs hv => by
 simp only [D.cel] at hv ⊢
 exact h.oks hv
theorem j0g {α : Type} {e : Nat} {f : α -> D} {xs : List α} : AV.le (.d (nzD e f xs)) (.d (.sl e none (xs.map f))) ↔ True := ⟨fun _ => trivial, fun _ => AV.le_d DL.of_nz⟩
theorem j0i {α : Type} {e e' : Nat} {f : α -> D} {xs : List (List α)} : AV.le (.d (.sl e none (xs.map (nzD e' f)))) (.d (.sl e none (xs.map (z7 e' f)))) ↔ True := ⟨fun _ => trivial, fun _ => AV.le_d DL.sl_nz⟩
attribute [go_sem] j0g j0i
theorem le_aD {α : Type} {x : AV} {f : α -> D} {v : α} : AV.le x (aD f v) = AV.le x (.d (f v)) := (rfl)
theorem j6c {α : Type} {f : α -> D} {xs : List α} {i : Nat} {v : α} (h : i < xs.length) : List.map (aD f) (List.take i xs) ++ (AV.d (f v) :: List.map (aD f) (List.drop (i + 1) xs)) = (xs.set i v).map (aD f) := by
 rw [List.map_take, List.map_drop]; exact x5l h
theorem x2c {α : Type} {f : α -> D} {xs : List α} {i : Nat} {v : α} (h : i < xs.length) : List.map (aD f) (List.take i xs) ++ [AV.d (f v)] ++ List.map (aD f) (List.drop (i + 1) xs) = (xs.set i v).map (aD f) := by
 rw [laa]; exact j6c h
attribute [go_sem] le_aD j6c x2c
theorem v5 {p q : Prop} (hq : q) (h : p = q := by first | ((conv => lhs; simp (config := { maxSteps := 1000000 }) (disch := omega) only [go_sem, g0q, v9q, f2q, f0q, List.drop_zero, List.append_nil, List.nil_append, Nat.reduceAdd, Nat.reduceSub, Nat.reduceLeDiff, Nat.reduceEqDiff, Nat.reduceLT, Int.reduceToNat, reduceIte, reduceCtorEq]) <;> rfl) | rfl) : p := h ▸ hq
theorem stpc {c p q : Prop} (hc : c) (hq : q) (h : p = q := by first | ((conv => lhs; simp (config := { maxSteps := 1000000 }) (disch := omega) only [go_sem, g0q, v9q, f2q, f0q, List.drop_zero, List.append_nil, List.nil_append, Nat.reduceAdd, Nat.reduceSub, Nat.reduceLeDiff, Nat.reduceEqDiff, Nat.reduceLT, Int.reduceToNat, reduceIte, reduceCtorEq, hc]) <;> rfl) | rfl) : p := h ▸ hq
theorem don {p : Prop} (h : p := by first | (simp only [go_sem, z7, List.map_append, List.map_take, List.map_drop, laa, Nat.reduceAdd, Nat.reduceSub, Nat.reduceLeDiff, Nat.reduceEqDiff, Nat.reduceLT, reduceIte, reduceCtorEq]; done) | ((try simp only [go_sem, z7, List.map_append, List.map_take, List.map_drop, laa, Nat.reduceAdd, Nat.reduceSub, Nat.reduceLeDiff, Nat.reduceEqDiff, Nat.reduceLT, reduceIte, reduceCtorEq]; repeat' (first | exact AV.le_refl _ | refine And.intro ?_ ?_ | refine AV.le_tup ?_ | refine AV.le_aggD ?_ | refine AV.le_agg ?_ | refine AV.le_d (DL.agg ?_) | exact enN | exact x5m | refine enC ?_ ?_ | refine j8g ?_ ?_ | exact dsN | refine dsC ?_ ?_ | exact h3q (AV.le_d DL.nil) _ |  exact D.le_refl _ | exact q8g | exact a4q | refine q8f ?_ | (simp only [go_sem, z7, List.map_append, List.map_take, List.map_drop, laa, Nat.reduceAdd, Nat.reduceSub, Nat.reduceLeDiff, Nat.reduceEqDiff, Nat.reduceLT, reduceIte, reduceCtorEq]; done) | refine q5v.append (q5v.refl _) ?_ | refine AV.le_ownown ?_ | refine AV.le_sl ?_ | omega)); done)) : p := h
section
variable {P : Program} {k0 f : Nat} {args env : List AV} {s : j9} {d : Option Nat} {R : List AV -> j9 -> Prop} {F : List (List Nat × List Nat) -> List AV -> j9 -> Prop} {ms : List f8} {acc : List (List Nat × List Nat)} {foot : List Nat}
end
theorem wk {k : Nat} {env env' : List AV} {s s' : j9} (h : w8 env env' := by first | (simp only [go_sem, z7, List.map_append, List.map_take, List.map_drop, laa, Nat.reduceAdd, Nat.reduceSub, Nat.reduceLeDiff, Nat.reduceEqDiff, Nat.reduceLT, reduceIte, reduceCtorEq]; done) | ((try simp only [go_sem, z7, List.map_append, List.map_take, List.map_drop, laa, Nat.reduceAdd, Nat.reduceSub, Nat.reduceLeDiff, Nat.reduceEqDiff, Nat.reduceLT, reduceIte, reduceCtorEq]; repeat' (first | exact AV.le_refl _ | refine And.intro ?_ ?_ | refine AV.le_tup ?_ | refine AV.le_aggD ?_ | refine AV.le_agg ?_ | refine AV.le_d (DL.agg ?_) | exact enN | exact x5m | refine enC ?_ ?_ | refine j8g ?_ ?_ | exact dsN | refine dsC ?_ ?_ | exact h3q (AV.le_d DL.nil) _ |  exact D.le_refl _ | exact q8g | exact a4q | refine q8f ?_ | (simp only [go_sem, z7, List.map_append, List.map_take, List.map_drop, laa, Nat.reduceAdd, Nat.reduceSub, Nat.reduceLeDiff, Nat.reduceEqDiff, Nat.reduceLT, reduceIte, reduceCtorEq]; done) | refine q5v.append (q5v.refl _) ?_ | refine AV.le_ownown ?_ | refine AV.le_sl ?_ | omega)); done)) (hs : e2q s s' := by first | (simp only [go_sem, z7, List.map_append, List.map_take, List.map_drop, laa, Nat.reduceAdd, Nat.reduceSub, Nat.reduceLeDiff, Nat.reduceEqDiff, Nat.reduceLT, reduceIte, reduceCtorEq]; done) | ((try simp only [go_sem, z7, List.map_append, List.map_take, List.map_drop, laa, Nat.reduceAdd, Nat.reduceSub, Nat.reduceLeDiff, Nat.reduceEqDiff, Nat.reduceLT, reduceIte, reduceCtorEq]; repeat' (first | exact AV.le_refl _ | refine And.intro ?_ ?_ | refine AV.le_tup ?_ | refine AV.le_aggD ?_ | refine AV.le_agg ?_ | refine AV.le_d (DL.agg ?_) | exact enN | exact x5m | refine enC ?_ ?_ | refine j8g ?_ ?_ | exact dsN | refine dsC ?_ ?_ | exact h3q (AV.le_d DL.nil) _ |  exact D.le_refl _ | exact q8g | exact a4q | refine q8f ?_ | (simp only [go_sem, z7, List.map_append, List.map_take, List.map_drop, laa, Nat.reduceAdd, Nat.reduceSub, Nat.reduceLeDiff, Nat.reduceEqDiff, Nat.reduceLT, reduceIte, reduceCtorEq]; done) | refine q5v.append (q5v.refl _) ?_ | refine AV.le_ownown ?_ | refine AV.le_sl ?_ | omega)); done)) : y0 k env s env' s' := y0.leS h hs
theorem x9.frzL {α : Type} {k : Nat} {x : AV} {s : j9} (id : Nat) {t : Nat} (f : α -> D) [z5y f] (xs : List α) (hid : k <= id) (ho : sat s id = .obj t (xs.map (aD f))) :
 x9 k x s (x.frz id (xs.map f)) (k0n id (xs.map f) s) :=
 x9.frz id hid (.inl ⟨t, by rw [ho, j5e], fun d h => by obtain ⟨x, _, rfl⟩ := List.mem_map.1 h; exact z5y.one x⟩)
theorem frd {p : Prop} (h : p := by (try simp (disch := first | omega | (simp only [lap, List.length_cons, List.length_nil, List.length_set, List.length_map, List.length_replicate, Nat.reduceAdd] <;> fail) | fail) only [k6b, AV.ren, AV.rens, k0g, y8, z4w, z4t, k5j, k9d, k3p, z6x, k5i, k9a, k5h, x7h, k9c, z4u, j3z, j4a, z4v, k9b]); first | (simp only [go_sem, z7, List.map_append, List.map_take, List.map_drop, laa, Nat.reduceAdd, Nat.reduceSub, Nat.reduceLeDiff, Nat.reduceEqDiff, Nat.reduceLT, reduceIte, reduceCtorEq]; done) | ((try simp only [go_sem, z7, List.map_append, List.map_take, List.map_drop, laa, Nat.reduceAdd, Nat.reduceSub, Nat.reduceLeDiff, Nat.reduceEqDiff, Nat.reduceLT, reduceIte, reduceCtorEq]; repeat' (first | exact AV.le_refl _ | refine And.intro ?_ ?_ | refine AV.le_tup ?_ | refine AV.le_aggD ?_ | refine AV.le_agg ?_ | refine AV.le_d (DL.agg ?_) | exact enN | exact x5m | refine enC ?_ ?_ | refine j8g ?_ ?_ | exact dsN | refine dsC ?_ ?_ | exact h3q (AV.le_d DL.nil) _ |  exact D.le_refl _ | exact q8g | exact a4q | refine q8f ?_ | (simp only [go_sem, z7, List.map_append, List.map_take, List.map_drop, laa, Nat.reduceAdd, Nat.reduceSub, Nat.reduceLeDiff, Nat.reduceEqDiff, Nat.reduceLT, reduceIte, reduceCtorEq]; done) | refine q5v.append (q5v.refl _) ?_ | refine AV.le_ownown ?_ | refine AV.le_sl ?_ | omega)); done)) : p := h
theorem stpf {p q : Prop} (hq : q) (h : p = q := by first | ((conv => lhs; simp (disch := first | omega | (simp only [lap, List.length_cons, List.length_nil, List.length_set, List.length_map, List.length_replicate, Nat.reduceAdd] <;> fail) | fail) only [z4w, z4t, k5j, k9d, k3p, z6x, k5i, k9a, k5h, x7h, k9c, z4u, j3z, j4a, z4v, k9b]) <;> rfl) | rfl) : p := h ▸ hq
section
variable {α : Type} {f : α -> D} {e : Nat}
theorem x9.fz [Cel f e] {k0 t n : Nat} {x : AV} {s : j9} {ds : List D} (id : Nat) (f' : α -> D) (hf : f' = f) (xs : List α) (ho : sat s id = .gro t e n ds := by exact rfl) (hid : k0 <= id := by omega) (hn : n = xs.length := by simp)
 (hs : ds = q0o f xs := by first | rfl | simp only [go_sem, z7, List.map_append, List.map_take, List.map_drop, laa, Nat.reduceAdd, Nat.reduceSub, Nat.reduceLeDiff, Nat.reduceEqDiff, Nat.reduceLT, reduceIte, reduceCtorEq]) : x9 k0 x s (x.frz id (xs.map f')) (k0n id (xs.map f') s) := x9.frzN id f' hf xs hid ho hn hs
theorem y0.fz [Cel f e] {k0 t n : Nat} {env : List AV} {s : j9} {ds : List D} (id : Nat) (f' : α -> D) (hf : f' = f) (xs : List α) (ho : sat s id = .gro t e n ds := by exact rfl) (hid : k0 <= id := by omega) (hn : n = xs.length := by simp)
 (hs : ds = q0o f xs := by first | rfl | simp only [go_sem, z7, List.map_append, List.map_take, List.map_drop, laa, Nat.reduceAdd, Nat.reduceSub, Nat.reduceLeDiff, Nat.reduceEqDiff, Nat.reduceLT, reduceIte, reduceCtorEq]) : y0 k0 env s (AV.frzs id (xs.map f') env) (k0n id (xs.map f') s) := y0.freezeN id f' hf xs hid ho hn hs
end
section
variable {P : Program} {k : Nat} {Q : q9j} {env : List AV} {s : j9}
end
section
attribute [local irreducible] vcm vgo vdr q3o q0n MWp p5q BrC BrO BrG BrD BrH z0s a3q q3y drQ w8 e2q
end
section
attribute [local irreducible] vcm vgo vdr q3o q0n MWp p5q BrC BrO BrG BrD BrH z0s a3q q3y drQ w8 e2q
end
def TL (nid : Nat) (x y : AV) : Prop := ∀ (β : x5) (O : Own) (w : World) (v : Value), β nid = .tok q4f 0 -> AV.ok β O w x v -> AV.ok β O w y v
def TLs (nid : Nat) (xs ys : List AV) : Prop := ∀ (β : x5) (O : Own) (w : World) (vs : List Value), β nid = .tok q4f 0 -> AV.oks β O w xs vs -> AV.oks β O w ys vs
theorem TL.refl {nid : Nat} {x : AV} : TL nid x x := fun _ _ _ _ _ h => h
theorem TLs.nil {nid : Nat} : TLs nid [] [] := fun _ _ _ _ _ h => h
theorem TLs.cons {nid : Nat} {x y : AV} {xs ys : List AV} (h : TL nid x y) (hs : TLs nid xs ys) : TLs nid (x :: xs) (y :: ys) := fun β O w vs hb hv => by
 simp only [AV.oks] at hv ⊢
 obtain ⟨v, r, h1, h2, h3⟩ := hv
 exact ⟨v, r, h1, h β O w v hb h2, hs β O w r hb h3⟩
theorem TL.nil {nid e e0 : Nat} : TL nid (.d (.sl e0 (some true) [])) (.gow e nid 0) := fun β O w v hb hv => by
 simp only [AV.ok] at hv ⊢
 have := k5v hv
 subst this
 exact ⟨_, _, by rw [hb]; exact ⟨rfl, rfl⟩, Nat.le_refl _, fun _ => rfl, .inl ⟨none, rfl, trivial⟩⟩
theorem TL.tup {nid : Nat} {xs ys : List AV} (h : TLs nid xs ys) : TL nid (.tup xs) (.tup ys) := fun β O w v hb hv => by
 simp only [AV.ok] at hv ⊢
 obtain ⟨vs, h1, h2⟩ := hv
 exact ⟨vs, h1, h β O w _ hb h2⟩
theorem TL.agg {nid : Nat} {xs ys : List AV} (h : TLs nid xs ys) : TL nid (.agg xs) (.agg ys) := fun β O w v hb hv => by
 simp only [AV.ok] at hv ⊢
 obtain ⟨vs, h1, h0, h2⟩ := hv
 exact ⟨vs, h1, h0, h β O w _ hb h2⟩
theorem k4z {O : Own} {w : World} : ∀ {xs : List D} {vs : List Value}, D.oks O w xs vs -> ∀ u ∈ vs, one u = true
 | [], vs, h => by simp [D.oks] at h; subst h; simp
 | x :: xs, vs, h => by
  simp only [D.oks] at h
  obtain ⟨v, r, rfl, h1, _, h3⟩ := h
  intro u hu
  rcases List.mem_cons.1 hu with rfl | hu
  ·exact h1
  ·exact k4z h3 u hu
theorem TL.aggD {nid : Nat} {ds : List D} {ys : List AV} (h : TLs nid (ds.map .d) ys) : TL nid (.d (.agg ds)) (.agg ys) := fun β O w v hb hv => by
 simp only [AV.ok, D.ok] at hv ⊢
 obtain ⟨vs, h1, h2⟩ := hv
 exact ⟨vs, h1, k4z h2, h β O w _ hb (j3o h2)⟩
theorem x9.thawN {k : Nat} {x : AV} {s : j9} (nid t e : Nat) (y : AV) (hd : sat s nid = .dead) (hxy : TL nid x y) : x9 k x s y (j8 (j8 s nid (.tok t e 0)) nid (.gro t e 0 [])) := fun C β w v hC hi hx => by
 have hst : St C β [] s { tmps := #[], defers := [] } w := ⟨.nil, hi, rfl, fun i x hx => by simp at hx⟩
 obtain ⟨h1, m⟩ := hst.tokNil (id := nid) (t := t) (e := e) hd
 obtain ⟨h2, hf⟩ := h1.inv.toGro (id := nid) (by rw [u5, if_pos rfl])
 exact ⟨_, h2, by rw [hf]; exact hxy _ _ _ _ (by simp [bset]) (m.ok hx)⟩
def sq : Nat -> List MOp -> List f8
 | _, [] => []
 | n, x :: xs => ⟨some n, x, none⟩ :: sq (n + 1) xs
def sg (g : Nat) (b : Bool) : Nat -> List MOp -> List f8
 | _, [] => []
 | n, x :: xs => ⟨some n, x, some (some g, b)⟩ :: sg g b (n + 1) xs
def s0 (x : MOp) : List f8 := [⟨none, x, none⟩]
def t0 (n : Nat) : Operand := .tmp n
def i0 (n : Int) : Operand := .const (.int .i64 n)
def tms : List Nat -> List Operand
 | [] => []
 | n :: ns => .tmp n :: tms ns
def mv (n : Nat) : MOp := .mv (.tmp n)
def mi (n : Int) : MOp := .mv (.const (.int .i64 n))
def mb (b : Bool) : MOp := .mv (.const (.bool b))
def ld (n : Nat) : MOp := .load 1 false (.tmp n)
def la (e n : Nat) : MOp := .load e true (.tmp n)
def fa (o n : Nat) : MOp := .fad o (.tmp n)
def cf (f : Nat) (ns : List Nat) : MOp := .callf f (tms ns)
def pa (a b : Nat) : MOp := .pick (.tmp a) (.tmp b) (.const (.bool false))
def po (a b : Nat) : MOp := .pick (.tmp a) (.const (.bool true)) (.tmp b)
def bn (o : BinOp) (a b : Nat) : MOp := .bin o (.tmp a) (.tmp b)
def bi (o : BinOp) (a : Nat) (n : Int) : MOp := .bin o (.tmp a) (.const (.int .i64 n))
def nt (n : Nat) : MOp := .un .not (.tmp n)
def ln (n : Nat) : MOp := .len (.tmp n)
def ex (n i : Nat) : MOp := .ext (.tmp n) i
def ix (e a b : Nat) : MOp := .ixa e (.tmp a) (.tmp b)
def bo (d t n : Nat) : MOp := .box d t (.tmp n)
def ap (d t e b x y : Nat) : MOp := .app d t e b (.tmp x) (.tmp y)
def sr (n a b : Nat) : MOp := .store n (.tmp a) (.tmp b)
theorem sq_n {n : Nat} : sq n [] = [] := (rfl)
theorem sq_c {n : Nat} {x : MOp} {xs : List MOp} : sq n (x :: xs) = ⟨some n, x, none⟩ :: sq (n + 1) xs := (rfl)
theorem sg_n {g : Nat} {b : Bool} {n : Nat} : sg g b n [] = [] := (rfl)
theorem sg_c {g : Nat} {b : Bool} {n : Nat} {x : MOp} {xs : List MOp} : sg g b n (x :: xs) = ⟨some n, x, some (some g, b)⟩ :: sg g b (n + 1) xs := (rfl)
theorem s0_u {x : MOp} : s0 x = [⟨none, x, none⟩] := (rfl)
theorem t0_u {n : Nat} : t0 n = .tmp n := (rfl)
theorem i0_u {n : Int} : i0 n = .const (.int .i64 n) := (rfl)
theorem tms_n : tms [] = [] := (rfl)
theorem tms_c {n : Nat} {ns : List Nat} : tms (n :: ns) = .tmp n :: tms ns := (rfl)
theorem mv_u {n : Nat} : mv n = .mv (.tmp n) := (rfl)
theorem mi_u {n : Int} : mi n = .mv (.const (.int .i64 n)) := (rfl)
theorem mb_u {b : Bool} : mb b = .mv (.const (.bool b)) := (rfl)
theorem ld_u {n : Nat} : ld n = .load 1 false (.tmp n) := (rfl)
theorem la_u {e n : Nat} : la e n = .load e true (.tmp n) := (rfl)
theorem fa_u {o n : Nat} : fa o n = .fad o (.tmp n) := (rfl)
theorem cf_u {f : Nat} {ns : List Nat} : cf f ns = .callf f (tms ns) := (rfl)
theorem pa_u {a b : Nat} : pa a b = .pick (.tmp a) (.tmp b) (.const (.bool false)) := (rfl)
theorem po_u {a b : Nat} : po a b = .pick (.tmp a) (.const (.bool true)) (.tmp b) := (rfl)
theorem bn_u {o : BinOp} {a b : Nat} : bn o a b = .bin o (.tmp a) (.tmp b) := (rfl)
theorem bi_u {o : BinOp} {a : Nat} {n : Int} : bi o a n = .bin o (.tmp a) (.const (.int .i64 n)) := (rfl)
theorem nt_u {n : Nat} : nt n = .un .not (.tmp n) := (rfl)
theorem ln_u {n : Nat} : ln n = .len (.tmp n) := (rfl)
theorem ex_u {n i : Nat} : ex n i = .ext (.tmp n) i := (rfl)
theorem ix_u {e a b : Nat} : ix e a b = .ixa e (.tmp a) (.tmp b) := (rfl)
theorem bo_u {d t n : Nat} : bo d t n = .box d t (.tmp n) := (rfl)
theorem ap_u {d t e b x y : Nat} : ap d t e b x y = .app d t e b (.tmp x) (.tmp y) := (rfl)
theorem sr_u {n a b : Nat} : sr n a b = .store n (.tmp a) (.tmp b) := (rfl)
attribute [go_sem] sq_n sq_c sg_n sg_c s0_u t0_u i0_u tms_n tms_c mv_u mi_u mb_u ld_u la_u fa_u cf_u pa_u po_u bn_u bi_u nt_u ln_u ex_u ix_u bo_u ap_u sr_u
class y3 {α : Type} (x : Option α) (Q : outParam (α -> Prop)) : Prop where
 c : ∀ {r : α}, x = some r -> Q r
def Bnd {α β : Type} (x : Option α) (K : α -> Option β) (r : β) : Prop := x.bind K = some r
def Ite {α : Type} (c : Bool) (a b : Option α) (r : α) : Prop := (if c = true then a else b) = some r
def Nds {α : Type} (p : Prop) (a : Option α) (r : α) : Prop := p /\ a = some r
theorem toB {α β : Type} {x : Option α} {K : α -> Option β} {r : β} (h : x.bind K = some r) : Bnd x K r := h
theorem toI {α : Type} {c : Bool} {a b : Option α} {r : α} (h : (if c = true then a else b) = some r) : Ite c a b r := h
theorem toN {α : Type} {p : Prop} [Decidable p] {a : Option α} {r : α} (h : (if p then a else none) = some r) : Nds p a r := f8q h
theorem toE {α : Type} {x r : α} (h : some x = some r) : x = r := Option.some.inj h
theorem toF {α : Type} {r : α} (h : none = some r) : False := by cases h
theorem it {α : Type} {c : Bool} {a b : Option α} {r : α} {p q1 q2 : Prop} (h : Ite c a b r) (k1 : c = true -> a = some r -> q1) (k2 : c = false -> b = some r -> q2)
 (e1 : c = true -> p = q1 := by intro hc; (try simp only [lap, List.length_cons, List.length_nil, List.length_map, Nat.reduceAdd] at hc); first | ((conv => lhs; simp (config := { maxSteps := 1000000 }) (disch := omega) only [go_sem, g0q, v9q, f2q, f0q, List.drop_zero, List.append_nil, List.nil_append, Nat.reduceAdd, Nat.reduceSub, Nat.reduceLeDiff, Nat.reduceEqDiff, Nat.reduceLT, Int.reduceToNat, reduceIte, reduceCtorEq, hc]) <;> rfl) | rfl)
 (e2 : c = false -> p = q2 := by intro hc; (try simp only [lap, List.length_cons, List.length_nil, List.length_map, Nat.reduceAdd] at hc); first | ((conv => lhs; simp (config := { maxSteps := 1000000 }) (disch := omega) only [go_sem, g0q, v9q, f2q, f0q, List.drop_zero, List.append_nil, List.nil_append, Nat.reduceAdd, Nat.reduceSub, Nat.reduceLeDiff, Nat.reduceEqDiff, Nat.reduceLT, Int.reduceToNat, reduceIte, reduceCtorEq, hc]) <;> rfl) | rfl) : p :=
 (k9i h).elim (fun h => (e1 h.1).symm ▸ k1 h.1 h.2) fun h => (e2 h.1).symm ▸ k2 h.1 h.2
theorem z5l {ρ : Nat -> Option Nat} {id e n : Nat} {ds : List D} : AV.ren ρ (AV.frz id ds (.gow e id n)) = AV.frz id ds (.gow e id n) := by
 simp only [AV.frz, if_true]; split <;> rfl
attribute [go_sem] z5l
def Rt (p : Prop) : Prop := p
theorem rtA {c x : Prop} (h : c) : Rt (c /\ x) = Rt x := propext ⟨fun k => k.2, fun k => ⟨h, k⟩⟩
theorem nds {p q : Prop} (hq : q) (e : p = q := by first | ((conv => lhs; change Rt _; simp (config := { maxSteps := 1000000 }) (disch := omega) only [rtA, go_sem, g0q, v9q, f2q, f0q, List.drop_zero, List.append_nil, List.nil_append, Nat.reduceAdd, Nat.reduceSub, Nat.reduceLeDiff, Nat.reduceEqDiff, Nat.reduceLT, Int.reduceToNat, reduceIte, reduceCtorEq]; delta Rt) <;> rfl) | rfl) : p := e ▸ hq
theorem ndN {α : Type} {c p q : Prop} {a : Option α} {r : α} (h : Nds c a r) (k : c -> a = some r -> q)
 (e : c -> p = q := by intro hp; (try (have hq' := hp; simp only [lap, List.length_cons, List.length_nil, List.length_map, Nat.reduceAdd] at hq')); first | ((conv => lhs; change Rt _; simp (config := { maxSteps := 1000000 }) (disch := omega) only [rtA, go_sem, g0q, v9q, f2q, f0q, List.drop_zero, List.append_nil, List.nil_append, Nat.reduceAdd, Nat.reduceSub, Nat.reduceLeDiff, Nat.reduceEqDiff, Nat.reduceLT, Int.reduceToNat, reduceIte, reduceCtorEq]; delta Rt) <;> rfl) | rfl) : p := (e h.1).symm ▸ (k h.1 h.2)
theorem ndI {α : Type} {c p q : Prop} {_ : Decidable c} {a : Option α} {r : α} (h : (if c then a else none) = some r) (k : c -> a = some r -> q)
 (e : c -> p = q := by intro hp; (try (have hq' := hp; simp only [lap, List.length_cons, List.length_nil, List.length_map, Nat.reduceAdd] at hq')); first | ((conv => lhs; change Rt _; simp (config := { maxSteps := 1000000 }) (disch := omega) only [rtA, go_sem, g0q, v9q, f2q, f0q, List.drop_zero, List.append_nil, List.nil_append, Nat.reduceAdd, Nat.reduceSub, Nat.reduceLeDiff, Nat.reduceEqDiff, Nat.reduceLT, Int.reduceToNat, reduceIte, reduceCtorEq]; delta Rt) <;> rfl) | rfl) : p := (e (f8q h).1).symm ▸ (k (f8q h).1 (f8q h).2)
section
variable {α β : Type} {P : Program} {k0 f : Nat} {args env : List AV} {s : j9} {d : Option Nat} {R : List AV -> j9 -> Prop} {F : List (List Nat × List Nat) -> List AV -> j9 -> Prop} {ms : List f8} {acc : List (List Nat × List Nat)} {foot : List Nat}
 {x : Option α} {K : α -> Option β} {r : β} {q : α -> Prop}
theorem rC {as : List D} {y : α -> D} [i : y3 x fun a => p7 P f as (y a)] (h : Bnd x K r) (hk : ∀ a, x = some a -> K a = some r -> q a)
 (e : ∀ a, R (d7 d env (.d (y a))) s = q a := by intro a; first | ((conv => lhs; simp (config := { maxSteps := 1000000 }) (disch := omega) only [go_sem, g0q, v9q, f2q, f0q, List.drop_zero, List.append_nil, List.nil_append, Nat.reduceAdd, Nat.reduceSub, Nat.reduceLeDiff, Nat.reduceEqDiff, Nat.reduceLT, Int.reduceToNat, reduceIte, reduceCtorEq]) <;> rfl) | rfl) (ha : w8 (args.map fun x => x.ren (inρ [])) (as.map .d) := by exact don) : a3q P k0 f args env s d R :=
 let ⟨a, h1, h2⟩ := q0e h; j9z (i.c h1) ha ((e a).symm ▸ hk a h1 h2)
theorem rCN {as : List D} {y : α -> List D} [i : y3 x fun a => r9 P f as (y a)] (h : Bnd x K r) (hk : ∀ a, x = some a -> K a = some r -> q a)
 (e : ∀ a, R (d7 d env (.tup ((y a).map .d))) s = q a := by intro a; first | ((conv => lhs; simp (config := { maxSteps := 1000000 }) (disch := omega) only [go_sem, g0q, v9q, f2q, f0q, List.drop_zero, List.append_nil, List.nil_append, Nat.reduceAdd, Nat.reduceSub, Nat.reduceLeDiff, Nat.reduceEqDiff, Nat.reduceLT, Int.reduceToNat, reduceIte, reduceCtorEq]) <;> rfl) | rfl) (ha : w8 (args.map fun x => x.ren (inρ [])) (as.map .d) := by exact don) : a3q P k0 f args env s d R :=
 let ⟨a, h1, h2⟩ := q0e h; j3b (i.c h1) ha ((e a).symm ▸ hk a h1 h2)
theorem dC {as : List D} {y : α -> D} [i : y3 x fun a => p7 P f as (y a)] (h : Bnd x K r) (hk : ∀ a, x = some a -> K a = some r -> q a)
 (e : ∀ a, vdr P k0 F ms ((foot, []) :: acc) (d7 d env (.d (y a))) s = q a := by intro a; first | ((conv => lhs; simp (config := { maxSteps := 1000000 }) (disch := omega) only [go_sem, g0q, v9q, f2q, f0q, List.drop_zero, List.append_nil, List.nil_append, Nat.reduceAdd, Nat.reduceSub, Nat.reduceLeDiff, Nat.reduceEqDiff, Nat.reduceLT, Int.reduceToNat, reduceIte, reduceCtorEq]) <;> rfl) | rfl) (ha : w8 (args.map fun x => x.ren (inρ [])) (as.map .d) := by exact don) : q3y P k0 F ms acc foot d env s f args :=
 let ⟨a, h1, h2⟩ := q0e h; j9x (i.c h1) ha ((e a).symm ▸ hk a h1 h2)
theorem dCN {as : List D} {y : α -> List D} [i : y3 x fun a => r9 P f as (y a)] (h : Bnd x K r) (hk : ∀ a, x = some a -> K a = some r -> q a)
 (e : ∀ a, vdr P k0 F ms ((foot, []) :: acc) (d7 d env (.tup ((y a).map .d))) s = q a := by intro a; first | ((conv => lhs; simp (config := { maxSteps := 1000000 }) (disch := omega) only [go_sem, g0q, v9q, f2q, f0q, List.drop_zero, List.append_nil, List.nil_append, Nat.reduceAdd, Nat.reduceSub, Nat.reduceLeDiff, Nat.reduceEqDiff, Nat.reduceLT, Int.reduceToNat, reduceIte, reduceCtorEq]) <;> rfl) | rfl) (ha : w8 (args.map fun x => x.ren (inρ [])) (as.map .d) := by exact don) : q3y P k0 F ms acc foot d env s f args :=
 let ⟨a, h1, h2⟩ := q0e h; j3a (i.c h1) ha ((e a).symm ▸ hk a h1 h2)
theorem rCo (pr nw : List (Nat × Nat)) {as : List AV} {s1 : j9} {t : α -> j9} {y : α -> AV} [i : y3 x fun a => x6 P f as s1 pr.length fun x s' => x = y a /\ s' = t a] (h : Bnd x K r) (hk : ∀ a, x = some a -> K a = some r -> q a)
 (e : ∀ a, R (d7 d env ((y a).ren (q8r (pr ++ nw)))) (q5c s (t a) (pr ++ nw) (pr ++ nw)) = q a := by intro a; first | ((conv => lhs; simp (config := { maxSteps := 1000000 }) (disch := omega) only [go_sem, g0q, v9q, f2q, f0q, List.drop_zero, List.append_nil, List.nil_append, Nat.reduceAdd, Nat.reduceSub, Nat.reduceLeDiff, Nat.reduceEqDiff, Nat.reduceLT, Int.reduceToNat, reduceIte, reduceCtorEq]) <;> rfl) | rfl)
 (h1 : pr.map (·.1) = List.range pr.length := by rfl) (h2 : ((pr ++ nw).map (·.1)).Nodup := by decide) (h3 : ((pr ++ nw).map (·.2)).Nodup := by decide)
 (h4 : ∀ p ∈ nw, sat s p.2 = .dead /\ k0 <= p.2 := by simp [sat]) (ha : w8 (args.map fun x => x.ren (inρ pr)) as := by exact don) (hs : e2q (w6q s pr pr) s1 := by exact don) : a3q P k0 f args env s d R :=
 let ⟨a, g1, g2⟩ := q0e h; x7a pr nw (i.c g1) h1 h2 h3 h4 ha hs ((e a).symm ▸ hk a g1 g2)
theorem dCo (pr nw : List (Nat × Nat)) {as : List AV} {s1 : j9} {t : α -> j9} {y : α -> AV} [i : y3 x fun a => x6 P f as s1 pr.length fun x s' => x = y a /\ s' = t a] (h : Bnd x K r) (hk : ∀ a, x = some a -> K a = some r -> q a)
 (e : ∀ a, vdr P k0 F ms (((pr ++ nw).map (·.2) ++ foot, (obΔ (t a) (pr ++ nw) (pr ++ nw)).map (·.1)) :: acc) (d7 d env ((y a).ren (q8r (pr ++ nw)))) (q7g s (obΔ (t a) (pr ++ nw) (pr ++ nw))) = q a := by intro a; first | ((conv => lhs; simp (config := { maxSteps := 1000000 }) (disch := omega) only [go_sem, g0q, v9q, f2q, f0q, List.drop_zero, List.append_nil, List.nil_append, Nat.reduceAdd, Nat.reduceSub, Nat.reduceLeDiff, Nat.reduceEqDiff, Nat.reduceLT, Int.reduceToNat, reduceIte, reduceCtorEq]) <;> rfl) | rfl)
 (h1 : pr.map (·.1) = List.range pr.length := by rfl) (h2 : ((pr ++ nw).map (·.1)).Nodup := by decide) (h3 : ((pr ++ nw).map (·.2)).Nodup := by decide)
 (h4 : ∀ p ∈ nw, sat s p.2 = .dead /\ k0 <= p.2 := by simp [sat]) (ha : w8 (args.map fun x => x.ren (inρ pr)) as := by exact don) (hs : e2q (w6q s pr pr) s1 := by exact don) : q3y P k0 F ms acc foot d env s f args :=
 let ⟨a, g1, g2⟩ := q0e h; x6y pr nw (i.c g1) h1 h2 h3 h4 ha hs ((e a).symm ▸ hk a g1 g2)
end
theorem aut {p : Prop} (h : p := by repeat' first
 | refine y7q (by kernel_rfl) (v5 ?_)
 | refine z7m (by omega) (nds ?_)
 | (with_reducible replace h := toE h); subst h; first | (refine ⟨_, rfl, y0.leS ?_ ?_⟩ <;> (first | (simp only [go_sem, z7, List.map_append, List.map_take, List.map_drop, laa, Nat.reduceAdd, Nat.reduceSub, Nat.reduceLeDiff, Nat.reduceEqDiff, Nat.reduceLT, reduceIte, reduceCtorEq]; done) | ((try simp only [go_sem, z7, List.map_append, List.map_take, List.map_drop, laa, Nat.reduceAdd, Nat.reduceSub, Nat.reduceLeDiff, Nat.reduceEqDiff, Nat.reduceLT, reduceIte, reduceCtorEq]; repeat' (first | exact AV.le_refl _ | refine And.intro ?_ ?_ | refine AV.le_tup ?_ | refine AV.le_aggD ?_ | refine AV.le_agg ?_ | refine AV.le_d (DL.agg ?_) | exact enN | exact x5m | refine enC ?_ ?_ | refine j8g ?_ ?_ | exact dsN | refine dsC ?_ ?_ | exact h3q (AV.le_d DL.nil) _ |  exact D.le_refl _ | exact q8g | exact a4q | refine q8f ?_ | (simp only [go_sem, z7, List.map_append, List.map_take, List.map_drop, laa, Nat.reduceAdd, Nat.reduceSub, Nat.reduceLeDiff, Nat.reduceEqDiff, Nat.reduceLT, reduceIte, reduceCtorEq]; done) | refine q5v.append (q5v.refl _) ?_ | refine AV.le_ownown ?_ | refine AV.le_sl ?_ | omega)); done))) | (first | (simp only [go_sem, z7, List.map_append, List.map_take, List.map_drop, laa, Nat.reduceAdd, Nat.reduceSub, Nat.reduceLeDiff, Nat.reduceEqDiff, Nat.reduceLT, reduceIte, reduceCtorEq]; done) | ((try simp only [go_sem, z7, List.map_append, List.map_take, List.map_drop, laa, Nat.reduceAdd, Nat.reduceSub, Nat.reduceLeDiff, Nat.reduceEqDiff, Nat.reduceLT, reduceIte, reduceCtorEq]; repeat' (first | exact AV.le_refl _ | refine And.intro ?_ ?_ | refine AV.le_tup ?_ | refine AV.le_aggD ?_ | refine AV.le_agg ?_ | refine AV.le_d (DL.agg ?_) | exact enN | exact x5m | refine enC ?_ ?_ | refine j8g ?_ ?_ | exact dsN | refine dsC ?_ ?_ | exact h3q (AV.le_d DL.nil) _ |  exact D.le_refl _ | exact q8g | exact a4q | refine q8f ?_ | (simp only [go_sem, z7, List.map_append, List.map_take, List.map_drop, laa, Nat.reduceAdd, Nat.reduceSub, Nat.reduceLeDiff, Nat.reduceEqDiff, Nat.reduceLT, reduceIte, reduceCtorEq]; done) | refine q5v.append (q5v.refl _) ?_ | refine AV.le_ownown ?_ | refine AV.le_sl ?_ | omega)); done)) | (refine ⟨[], by simp, ?_, ?_⟩ <;> (first | (simp only [go_sem, z7, List.map_append, List.map_take, List.map_drop, laa, Nat.reduceAdd, Nat.reduceSub, Nat.reduceLeDiff, Nat.reduceEqDiff, Nat.reduceLT, reduceIte, reduceCtorEq]; done) | ((try simp only [go_sem, z7, List.map_append, List.map_take, List.map_drop, laa, Nat.reduceAdd, Nat.reduceSub, Nat.reduceLeDiff, Nat.reduceEqDiff, Nat.reduceLT, reduceIte, reduceCtorEq]; repeat' (first | exact AV.le_refl _ | refine And.intro ?_ ?_ | refine AV.le_tup ?_ | refine AV.le_aggD ?_ | refine AV.le_agg ?_ | refine AV.le_d (DL.agg ?_) | exact enN | exact x5m | refine enC ?_ ?_ | refine j8g ?_ ?_ | exact dsN | refine dsC ?_ ?_ | exact h3q (AV.le_d DL.nil) _ |  exact D.le_refl _ | exact q8g | exact a4q | refine q8f ?_ | (simp only [go_sem, z7, List.map_append, List.map_take, List.map_drop, laa, Nat.reduceAdd, Nat.reduceSub, Nat.reduceLeDiff, Nat.reduceEqDiff, Nat.reduceLT, reduceIte, reduceCtorEq]; done) | refine q5v.append (q5v.refl _) ?_ | refine AV.le_ownown ?_ | refine AV.le_sl ?_ | omega)); done)))
 | (with_reducible exact (toF h).elim)
 | (with_reducible replace h := toI h); refine it h (fun hc h => ?_) (fun hc h => ?_)
 | (with_reducible replace h := toN h); refine ndN h (fun hp h => ?_)
 | (with_reducible replace h := toB h); first | refine rC h (fun r hr h => ?_) | refine rCN h (fun r hr h => ?_) | refine dC h (fun r hr h => ?_) | refine dCN h (fun r hr h => ?_)
 | (with_reducible replace h := u9 h hb3)
 | (with_reducible replace h := u9 h hb2)
 | (with_reducible replace h := u9 h hb1)
 | (exfalso; simp only [decide_eq_true_eq, decide_eq_false_iff_not] at *; omega)) : p := h
theorem iT {α : Type} {c : Bool} {a b : Option α} {r : α} {p q1 : Prop} (h : (if c = true then a else b) = some r) (k1 : c = true -> a = some r -> q1)
 (e1 : c = true -> p = q1 := by intro hc; (try simp only [lap, List.length_cons, List.length_nil, List.length_map, Nat.reduceAdd] at hc); first | ((conv => lhs; simp (config := { maxSteps := 1000000 }) (disch := omega) only [go_sem, g0q, v9q, f2q, f0q, List.drop_zero, List.append_nil, List.nil_append, Nat.reduceAdd, Nat.reduceSub, Nat.reduceLeDiff, Nat.reduceEqDiff, Nat.reduceLT, Int.reduceToNat, reduceIte, reduceCtorEq, hc]) <;> rfl) | rfl)
 (k2 : c = false -> b = some r -> p := by intro hc h; (try simp only [lap, List.length_cons, List.length_nil, List.length_map, Nat.reduceAdd] at hc); refine stpc hc ?_; exact aut) : p :=
 (k9i h).elim (fun h => (e1 h.1).symm ▸ k1 h.1 h.2) fun h => k2 h.1 h.2
theorem iF {α : Type} {c : Bool} {a b : Option α} {r : α} {p q2 : Prop} (h : (if c = true then a else b) = some r) (k2 : c = false -> b = some r -> q2)
 (e2 : c = false -> p = q2 := by intro hc; (try simp only [lap, List.length_cons, List.length_nil, List.length_map, Nat.reduceAdd] at hc); first | ((conv => lhs; simp (config := { maxSteps := 1000000 }) (disch := omega) only [go_sem, g0q, v9q, f2q, f0q, List.drop_zero, List.append_nil, List.nil_append, Nat.reduceAdd, Nat.reduceSub, Nat.reduceLeDiff, Nat.reduceEqDiff, Nat.reduceLT, Int.reduceToNat, reduceIte, reduceCtorEq, hc]) <;> rfl) | rfl)
 (k1 : c = true -> a = some r -> p := by intro hc h; (try simp only [lap, List.length_cons, List.length_nil, List.length_map, Nat.reduceAdd] at hc); refine stpc hc ?_; exact aut) : p :=
 (k9i h).elim (fun h => k1 h.1 h.2) fun h => (e2 h.1).symm ▸ k2 h.1 h.2
theorem s9 {P : Program} {k : Nat} {Q : q9j} {env : List AV} {s : j9} {x : j5} {σ β : Type} {f : σ -> Option (σ ⊕ β)} {s0 : σ} {b : β} (hb : loopC f s0 = some b)
 (ws : List Nat) (vs : σ -> List (Nat × AV)) (S : σ -> j9)
 (round : ∀ p t, f p = some t -> (∀ b', t = .inr b' -> b' = b) -> MWp P k x (z3k (fun env' s' => ∃ p', t = .inl p' /\ y0 k env' s' (q5l (q0s env ws) (vs p')) (S p')) Q)
  (q5l (q0s env ws) (vs p)) (S p)) (hw : y0 k env s (q5l (q0s env ws) (vs s0)) (S s0) := by (try dsimp only); exact wk) : MWp P k (.loop x) Q env s := w5q hb ws vs S hw round
theorem q1o {s : j9} {id id' i : Nat} {ob : Ob} : sat (j8 (p8 id' s) id ob) i = if i = id then ob else if i = id' then .dead else (sat s i).kill id' := by
 rw [u5, q0k]
theorem St.absorb {C : Ctx} {β : x5} {env : List AV} {s : j9} {a : Act} {w : World} (h : St C β env s a w) {id id' : Nat} (hne : id ≠ id') (hk : C.k <= id') {t e n e' : Nat} {xs' : List D} {pre post : List AV}
 (hs : sat s id = .nst t e n (pre ++ .own e' id' xs' :: post))
 (hnv : ∀ v, AV.ok β (C.forb β s) w (.own e' id' xs') v -> ∃ B : List Nat, B.Nodup /\ (∀ b ∈ B, q8 β s id' b /\ ∃ vs t', w.heap[b]? = some (.cells vs t' (0, 0))) /\ NV w (.sl e' none xs') v B) :
 ∃ β', St C β' (AV.rens (y8 id') env) (j8 (p8 id' s) id (.nst t e n (AV.rens (y8 id') pre ++ .dp (.sl e' none xs') :: AV.rens (y8 id') post))) a w := by
 have ho := h.inv.obs id
 rw [hs] at ho
 obtain ⟨u, bs, hb, h0, hl, htok⟩ := ho
 rcases htok with ⟨_, h1, _⟩ | ⟨b, cap, vs, rfl, k5, k6, k7, k8, k9, k10, k11⟩
 ·rw [h1] at hl; simp at hl
 obtain ⟨hpl, b1, b2, hbs, hn1, hn2⟩ := q0d k11
 simp only [NXs] at hn2
 obtain ⟨v, r, c1, c2, hvr, hb2, hx, hn3⟩ := hn2
 obtain ⟨hxo, hc1⟩ : AV.ok β (C.forb β s) w (.own e' id' xs') v /\ c1 = [] := hx
 subst hc1
 rw [List.nil_append] at hb2
 subst hb2
 subst hbs
 obtain ⟨B, hB1, hB2, hB3⟩ := hnv v hxo
 have hm : q8 β s id b := by unfold q8; rw [hs]; exact ⟨_, _, hb, .inl ⟨cap, rfl⟩⟩
 have hmb : ∀ q ∈ b1 ++ b2, q8 β s id q := fun q hq => by unfold q8; rw [hs]; exact ⟨_, _, hb, .inr hq⟩
 have hdis : ∀ q ∈ B, ¬ q8 β s id q := fun q hq h2 => hne (h.inv.inj id id' q h2 (hB2 q hq).1)
 let β' : x5 := bset (bset β id' .no) id (.nst (.slice (some ⟨b, 0, none⟩) n cap) n (b1 ++ (B ++ b2)))
 let s' : j9 := j8 (p8 id' s) id (.nst t e n (AV.rens (y8 id') pre ++ .dp (.sl e' none xs') :: AV.rens (y8 id') post))
 have hβid : β' id = .nst (.slice (some ⟨b, 0, none⟩) n cap) n (b1 ++ (B ++ b2)) := by simp [β', bset]
 have hβo : ∀ i, i ≠ id -> i ≠ id' -> β' i = β i := fun i h1 h2 => by simp [β', bset, h1, h2]
 have hblk : ∀ i q, q8 β' s' i q -> q8 β s i q ∨ i = id /\ q ∈ B := by
  intro i q hq
  unfold q8 at hq
  rw [q1o] at hq
  by_cases hi : i = id
  ·subst hi
   rw [if_pos rfl] at hq
   simp only at hq
   obtain ⟨v', q', h1, h2⟩ := hq
   rw [hβid] at h1
   cases h1
   rcases h2 with ⟨cap', h2⟩ | h2
   ·simp at h2
    rw [<- h2.1]; exact .inl hm
   ·rcases List.mem_append.1 h2 with h2 | h2
    ·exact .inl (hmb q (by simp [h2]))
    ·rcases List.mem_append.1 h2 with h2 | h2
     ·exact .inr ⟨rfl, h2⟩
     ·exact .inl (hmb q (by simp [h2]))
  ·rw [if_neg hi] at hq
   by_cases hi' : i = id'
   ·rw [if_pos hi'] at hq; exact hq.elim
   ·rw [if_neg hi'] at hq
    refine .inl ?_
    unfold q8
    cases hsi : sat s i <;> rw [hsi] at hq <;> simpa [Ob.kill, hβo i hi hi'] using hq
 have hown : ∀ q o, own β' s' q o -> own (bset β id' .no) (p8 id' s) q o := by
  rintro q o ⟨i, ho⟩
  refine ⟨i, ?_⟩
  rw [q1o] at ho
  rw [q0k]
  by_cases hi : i = id
  ·subst hi
   rw [if_pos rfl] at ho
   simp only at ho
   obtain ⟨cap', q', h1, h2⟩ := ho
   rw [hβid] at h1
   rw [if_neg hne, hs]
   simp only [Ob.kill]
   simp only [w4q.nst.injEq, Value.slice.injEq, true_and, Option.some.injEq, Addr.mk.injEq, and_true] at h1
   obtain ⟨⟨rfl, rfl⟩, _⟩ := h1
   exact ⟨cap, b1 ++ b2, by simpa [bset, hne] using hb, h2⟩
  ·rw [if_neg hi] at ho
   by_cases hi' : i = id'
   ·rw [if_pos hi'] at ho; exact ho.elim
   ·rw [if_neg hi'] at ho ⊢
    cases hsi : sat s i <;> rw [hsi] at ho <;> simpa [Ob.kill, bset, hβo i hi hi', hi'] using ho
 have hval : ∀ x v, AV.ok β (C.forb β s) w x v -> AV.ok β' (C.forb β' s') w (x.ren (y8 id')) v := fun x v hx =>
  AV.ok_mono (fun q o v hc hn => ⟨hc, fun hf => hn (hf.imp (fun x => x) (hown q o))⟩) (fun i => by
   by_cases hi : i = id
   ·subst hi
    rw [hβid]
    simp only [bset, if_neg hne]
    rw [hb]
    exact ⟨_, _, _, rfl, Nat.le_refl _, fun _ => rfl⟩
   ·simp only [β']
    simp only [bset, if_neg hi]
    exact .refl _) _ _ (q6p (id := id') hx)
 have hnone : β' id' = .no := by simp [β', bset]; exact fun h => hne h.symm
 refine ⟨β', h.defers, ⟨h.inv.size, h.inv.io, h.inv.keep, h.inv.blks, fun q o ho => h.inv.ownd q o (q4x (hown q o ho)), fun i q hq => ?_, fun i hi => ?_, h.inv.low, fun i => ?_, fun i j q hi hj => ?_⟩, by rw [j5q]; exact h.len, fun i x hx => ?_⟩
 ·rcases hblk i q hq with h1 | ⟨_, h1⟩
  ·exact h.inv.ownB i q h1
  ·exact h.inv.ownB id' q (hB2 q h1).1
 ·have h1 := h.inv.pl i hi
  by_cases hii : i = id
  ·subst hii
   rw [hβid]
   rw [hb] at h1
   exact h1.trans ⟨_, _, _, rfl, Nat.le_refl _, fun _ => rfl⟩
  ·rw [hβo i hii (by omega)]; exact h1
 ·show k4s β' (C.forb β' s') w i (sat s' i)
  rw [q1o]
  by_cases hi : i = id
  ·subst hi
   rw [if_pos rfl]
   refine ⟨_, _, hβid, fun q hq => ?_, ?_, .inr ⟨b, cap, vs, rfl, k5, k6, k7, k8, k9, ?_, ?_⟩⟩
   ·rcases List.mem_append.1 hq with hq | hq
    ·exact h0 q (by simp [hq])
    ·rcases List.mem_append.1 hq with hq | hq
     ·exact (hB2 q hq).2
     ·exact h0 q (by simp [hq])
   ·rw [<- hl]; simp [j5q]
   ·have k10' := k10
    rw [List.nodup_cons, List.nodup_append] at k10'
    obtain ⟨p1, p2, p3, p4⟩ := k10'
    rw [List.nodup_cons, List.nodup_append, List.nodup_append]
    refine ⟨fun hq => ?_, p2, ⟨hB1, p3, fun x hx y hy he => hdis x hx (he ▸ hmb y (by simp [hy]))⟩, fun x hx y hy he => ?_⟩
    ·rcases List.mem_append.1 hq with hq | hq
     ·exact p1 (by simp [hq])
     ·rcases List.mem_append.1 hq with hq | hq
      ·exact hdis b hq hm
      ·exact p1 (by simp [hq])
    ·rcases List.mem_append.1 hy with hy | hy
     ·exact hdis y hy (he ▸ hmb x (by simp [hx]))
     ·exact p4 x hx y hy he
   ·have e1 := NXs.imp (f := AV.ren (y8 id')) (β' := β') (O' := C.forb β' s') (w' := w) (fun x v => d2q (hval x v)) (fun _ _ => rfl) hn1
    have e2 := NXs.imp (f := AV.ren (y8 id')) (β' := β') (O' := C.forb β' s') (w' := w) (fun x v => d2q (hval x v)) (fun _ _ => rfl) hn3
    rw [<- s6] at e1 e2
    have e3 : NXs β' (C.forb β' s') w (.dp (.sl e' none xs') :: AV.rens (y8 id') post) (vs.toList.drop pre.length) (B ++ b2) := by
     rw [hvr]
     simp only [NXs]
     exact ⟨v, r, B, b2, rfl, rfl, hB3, e2⟩
    have e4 := m0q (us := vs.toList.take pre.length) (by rw [List.length_take, j5q]; omega) (h1q (vs := vs.toList.take pre.length) e1 (by rw [j5q, List.take_take, Nat.min_self])) e3
    rwa [List.take_append_drop] at e4
  ·rw [if_neg hi]
   by_cases hi' : i = id'
   ·rw [if_pos hi', hi']; exact hnone
   ·rw [if_neg hi']
    have ho := h.inv.obs i
    cases hsi : sat s i with
    | dead => rw [hsi] at ho; exact (hβo i hi hi').trans ho
    | obj t' cs =>
     rw [hsi] at ho
     obtain ⟨q, us, h1, h2, h3, h4⟩ := ho
     refine ⟨q, us, (hβo i hi hi').trans h1, h2, h3, h4.imp fun us' hu => ?_⟩
     rw [s6]
     exact k5w hval hu
    | tok t' e2 n' => rw [hsi] at ho; obtain ⟨u', h1, h2⟩ := ho; exact ⟨u', (hβo i hi hi').trans h1, h2⟩
    | gro t' e2 n' cs =>
     rw [hsi] at ho
     obtain ⟨u', h1, h3, h2⟩ := ho
     refine ⟨u', (hβo i hi hi').trans h1, h3, ?_⟩
     rcases h2 with h2 | ⟨q, cap', us, g2, g3, g4, g5, g6, g7, pre', rest, g8, g9⟩
     ·exact .inl h2
     ·exact .inr ⟨q, cap', us, g2, g3, g4, g5, g6, g7, pre', rest, g8, D.oks_mono (fun q o v hc hn => ⟨hc, fun hf => hn (hf.imp (fun x => x) fun ho => q4x (hown q o ho))⟩) _ _ g9⟩
    | nst t' e2 n' cs =>
     rw [hsi] at ho
     obtain ⟨u', bs', h1, h3, h2⟩ := ho
     refine ⟨u', bs', (hβo i hi hi').trans h1, h3, ?_⟩
     rw [s6]
     exact h2.imp (fun x v => d2q (hval x v)) (fun _ _ => rfl) (fun _ _ _ => rfl)
    | prv e2 n' cs =>
     rw [hsi] at ho
     obtain ⟨u', bs', h1, h3, h2⟩ := ho
     refine ⟨u', bs', (hβo i hi hi').trans h1, h3, ?_⟩
     rw [s6]
     exact h2.imp (fun x v => d2q (hval x v)) (fun _ _ => rfl) (fun _ _ _ _ => rfl)
 ·rcases hblk i q hi with h1 | ⟨h1, h1'⟩ <;> rcases hblk j q hj with h2 | ⟨h2, h2'⟩
  ·exact h.inv.inj i j q h1 h2
  ·subst h2
   have := h.inv.inj i id' q h1 (hB2 q h2').1
   subst this
   unfold q8 at hi
   rw [q1o, if_neg (fun h => hne h.symm), if_pos rfl] at hi
   exact hi.elim
  ·subst h1
   have := h.inv.inj j id' q h2 (hB2 q h1').1
   subst this
   unfold q8 at hj
   rw [q1o, if_neg (fun h => hne h.symm), if_pos rfl] at hj
   exact hj.elim
  ·rw [h1, h2]
 ·rw [q1k] at hx
  cases hy : env[i]? with
  | none => rw [hy] at hx; cases hx
  | some y => rw [hy] at hx; cases hx; exact hval _ _ (h.env i y hy)
def x7v : D -> Bool
 | .lit _ => true
 | _ => false
def q3z : D -> Bool
 | .lit _ => true
 | .sl _ _ _ => true
 | _ => false
def q5r : D -> AV
 | .sl e nl xs => .dp (.sl e nl xs)
 | x => .d x
theorem z8w {β : x5} {O : Own} {w : World} {x : D} {v : Value} {bs : List Nat} (hx : q3z x = true) (h : NX β O w (q5r x) v bs) : NV w x v bs := by
 cases x with
 | any => cases hx
 | agg cs => cases hx
 | lit u =>
  obtain ⟨h1, h2⟩ := h
  have h1 : D.ok O w (.lit u) v := by
   have h1 : AV.ok β O w (.d (.lit u)) v := h1
   simpa only [AV.ok] using h1
  have h1 : v = u /\ one u = true := by simpa only [D.ok] using h1
  exact ⟨h1.1, h1.2, h2⟩
 | sl e nl xs => exact h
theorem k7a {β : x5} {O : Own} {w : World} : ∀ {cs : List D} {vs r : List Value} {bs : List Nat}, (∀ x ∈ cs, q3z x = true) -> vs.length = cs.length -> NXs β O w (cs.map q5r) (vs ++ r) bs -> NC w cs vs bs
 | [], vs, r, bs, _, hl, h => by
  simp only [List.map_nil, NXs] at h
  simp only [NC]
  exact ⟨List.length_eq_zero_iff.1 hl, h⟩
 | c :: cs, [], r, bs, _, hl, _ => by simp at hl
 | c :: cs, u :: us, r, bs, hc, hl, h => by
  simp only [List.map_cons, List.cons_append, NXs] at h
  obtain ⟨v, q, b1, b2, h1, rfl, h3, h4⟩ := h
  cases h1
  simp only [NC]
  exact ⟨u, us, b1, b2, rfl, rfl, z8w (hc c (by simp)) h3, k7a (fun x hx => hc x (by simp [hx])) (by simpa using hl) h4⟩
theorem k1g {β : x5} {O : Own} {w : World} {e : Nat} : ∀ {xs : List D} {vs : List Value} {bs : List Nat}, (∀ x ∈ xs, (z6 x).length = e) -> (∀ x ∈ xs, ∀ c ∈ z6 x, q3z c = true) ->
 NXs β O w ((xs.flatMap z6).map q5r) vs bs -> NR w e xs vs bs
 | [], vs, bs, _, _, h => by simpa [NXs, NR] using h
 | x :: xs, vs, bs, he, hc, h => by
  rw [List.flatMap_cons, List.map_append] at h
  obtain ⟨h1, b1, b2, rfl, h2, h3⟩ := q0d h
  rw [List.length_map] at h1 h3
  have hlen := he x (by simp)
  have hsp : vs = vs.take e ++ vs.drop e := (List.take_append_drop e vs).symm
  have hle : e <= vs.length := by omega
  have ih := k1g (xs := xs) (fun y hy => he y (by simp [hy])) (fun y hy => hc y (by simp [hy])) h3
  rw [hlen] at ih
  have hnc : NC w (z6 x) (vs.take e) b1 := k7a (r := vs.drop e) (hc x (by simp)) (by rw [List.length_take, hlen]; omega) (by rw [List.take_append_drop]; exact h2)
  cases x with
  | agg cs =>
   simp only [NR]
   exact ⟨vs.take e, vs.drop e, b1, b2, hsp, by rw [List.length_take]; omega, rfl, hnc, ih⟩
  | any => exact absurd (hc .any (by simp) .any (by simp [z6])) (by simp [q3z])
  | lit u =>
   simp only [z6, List.length_cons, List.length_nil] at hlen
   subst hlen
   simp only [z6, NC] at hnc
   obtain ⟨v, r, c1, c2, g1, rfl, g3, g4, rfl⟩ := hnc
   simp only [NR]
   exact ⟨v, vs.drop 1, c1, b2, by
    conv => lhs; rw [hsp]
    rw [g1, g4]; rfl, by trivial, by simp, g3, ih⟩
  | sl e' nl ys =>
   simp only [z6, List.length_cons, List.length_nil] at hlen
   subst hlen
   simp only [z6, NC] at hnc
   obtain ⟨v, r, c1, c2, g1, rfl, g3, g4, rfl⟩ := hnc
   simp only [NR]
   exact ⟨v, vs.drop 1, c1, b2, by
    conv => lhs; rw [hsp]
    rw [g1, g4]; rfl, by trivial, by simp, g3, ih⟩
theorem x8n {C : Ctx} {β : x5} {s : j9} {w : World} (h : Inv C β s w) {id' t e : Nat} {xs : List D} (hs : sat s id' = .nst t e xs.length ((xs.flatMap z6).map q5r))
 (he : ∀ x ∈ xs, (z6 x).length = e) (hc : ∀ x ∈ xs, ∀ c ∈ z6 x, q3z c = true) (v : Value) (hv : AV.ok β (C.forb β s) w (.own e id' xs) v) :
 ∃ B : List Nat, B.Nodup /\ (∀ b ∈ B, q8 β s id' b /\ ∃ vs t', w.heap[b]? = some (.cells vs t' (0, 0))) /\ NV w (.sl e none xs) v B := by
 have ho := h.obs id'
 rw [hs] at ho
 obtain ⟨u, bs, hb, h0, hl, htok⟩ := ho
 simp only [AV.ok, D.ok] at hv
 obtain ⟨⟨a, cap, hva, hcap, hnl, _⟩, p, q, h1, _, h3⟩ := hv
 rw [hb] at h1
 obtain ⟨rfl, rfl⟩ := h1
 have hvu : v = u := h3 rfl
 subst hvu
 rcases htok with ⟨rfl, k2, rfl⟩ | ⟨b, cap', vs, rfl, k5, k6, k7, k8, k9, k10, k11⟩
 ·have hx : xs = [] := List.length_eq_zero_iff.1 k2
  subst hx
  refine ⟨[], by simp, by simp, ?_⟩
  simp only [NV]
  exact ⟨none, 0, rfl, ⟨Nat.le_refl _, by omega⟩, trivial, .inl (by simp)⟩
 ·refine ⟨b :: bs, k10, fun q hq => ?_, ?_⟩
  ·rcases List.mem_cons.1 hq with rfl | hq
   ·exact ⟨by unfold q8; rw [hs]; exact ⟨_, bs, hb, .inl ⟨cap', rfl⟩⟩, vs, t, k5⟩
   ·exact ⟨by unfold q8; rw [hs]; exact ⟨_, bs, hb, .inr hq⟩, h0 q hq⟩
  ·simp only [NV]
   exact ⟨_, cap', rfl, ⟨k7, k8⟩, trivial, .inr ⟨b, vs, t, bs, rfl, rfl, k5, k6, k9, k1g he hc k11⟩⟩
theorem z7t {O : Own} {w : World} {b : Nat} {vs : Array Value} {t : Nat} (hh : w.heap[b]? = some (.cells vs t (0, 0))) : ∀ {xs : List D} {o : Nat}, (∀ x ∈ xs, x7v x = true) -> D.row O w b o 1 xs -> NR w 1 xs (vs.toList.drop o) []
 | [], _, _, _ => by simp [NR]
 | x :: xs, o, hl, h => by
  cases x with
  | lit u =>
   simp only [D.row] at h
   obtain ⟨⟨v, _, h1, h2⟩, h3⟩ := h
   simp only [D.ok] at h2
   obtain ⟨rfl, hone⟩ := h2
   have h4 := (h1 0 v rfl).1
   simp only [World.cell?, hh, Option.isSome_none, bft, if_false, Nat.add_zero] at h4
   have hlt : o < vs.toList.length := by simpa using (Array.getElem?_eq_some_iff.1 h4).1
   simp only [NR]
   refine ⟨v, vs.toList.drop (o + 1), [], [], ?_, by trivial, rfl, ?_, z7t hh (fun y hy => hl y (by simp [hy])) h3⟩
   ·rw [List.drop_eq_getElem_cons hlt]
    congr 1
    have := (Array.getElem?_eq_some_iff.1 h4).2
    simpa using this
   ·simp only [NV]; exact ⟨by trivial, hone, by trivial⟩
  | any => exact absurd (hl .any (by simp)) (by simp [x7v])
  | agg cs => exact absurd (hl (.agg cs) (by simp)) (by simp [x7v])
  | sl e nl ys => exact absurd (hl (.sl e nl ys) (by simp)) (by simp [x7v])
theorem x8o {C : Ctx} {β : x5} {s : j9} {w : World} (h : Inv C β s w) {id' t : Nat} {xs : List D} (hs : sat s id' = .tok t 1 xs.length)
 (hc : ∀ x ∈ xs, x7v x = true) (v : Value) (hv : AV.ok β (C.forb β s) w (.own 1 id' xs) v) :
 ∃ B : List Nat, B.Nodup /\ (∀ b ∈ B, q8 β s id' b /\ ∃ vs t', w.heap[b]? = some (.cells vs t' (0, 0))) /\ NV w (.sl 1 none xs) v B := by
 have ho := h.obs id'
 rw [hs] at ho
 obtain ⟨u, hb, htok⟩ := ho
 simp only [AV.ok, D.ok] at hv
 obtain ⟨⟨a, cap, hva, hcap, hnl, hrow⟩, p, q, h1, _, h3⟩ := hv
 rw [hb] at h1
 obtain ⟨rfl, rfl⟩ := h1
 have hvu : v = u := h3 rfl
 subst hvu
 rcases htok with ⟨rfl, k2⟩ | ⟨b, cap', vs, rfl, k5, k6, k7, k8, k9⟩
 ·have hx : xs = [] := List.length_eq_zero_iff.1 k2
  subst hx
  refine ⟨[], by simp, by simp, ?_⟩
  simp only [NV]
  exact ⟨none, 0, rfl, ⟨Nat.le_refl _, by omega⟩, trivial, .inl (by simp)⟩
 ·simp only [Value.slice.injEq, true_and] at hva
  obtain ⟨rfl, rfl⟩ := hva
  refine ⟨[b], by simp, fun q hq => ?_, ?_⟩
  ·simp only [List.mem_singleton] at hq
   subst hq
   exact ⟨by unfold q8; rw [hs]; exact ⟨cap', hb⟩, vs, t, k5⟩
  ·simp only [NV]
   refine ⟨_, cap', rfl, ⟨k7, k8⟩, trivial, .inr ⟨b, vs, t, [], rfl, rfl, k5, k6, k9, ?_⟩⟩
   rcases hrow with rfl | ⟨b', o', q2, q3⟩
   ·simp [NR]
   ·cases q2
    simpa using z7t k5 hc q3
def j7 (ds : List D) : List AV := (ds.flatMap z6).map q5r
theorem k2o {xs ys : List D} : j7 (xs ++ ys) = j7 xs ++ j7 ys := by simp [j7]
theorem q7i {x : D} {xs : List D} : j7 (x :: xs) = (z6 x).map q5r ++ j7 xs := by simp [j7]
theorem m8 {ρ : Nat -> Option Nat} : ∀ {ds : List D}, AV.rens ρ (j7 ds) = j7 ds := fun {ds} => by
 rw [s6]
 unfold j7
 rw [List.map_map]
 refine List.map_congr_left fun x _ => ?_
 cases x <;> rfl
def q6f (s : j9) (id' e' : Nat) (xs : List D) : Prop :=
 (∃ t, e' = 1 /\ sat s id' = .tok t 1 xs.length /\ ∀ x ∈ xs, x7v x = true) ∨
 (∃ t, sat s id' = .nst t e' xs.length (j7 xs) /\ (∀ x ∈ xs, (z6 x).length = e') /\ ∀ x ∈ xs, ∀ c ∈ z6 x, q3z c = true)
theorem q6f.nv {C : Ctx} {β : x5} {s : j9} {w : World} (h : Inv C β s w) {id' e' : Nat} {xs : List D} (hw : q6f s id' e' xs) (v : Value) (hv : AV.ok β (C.forb β s) w (.own e' id' xs) v) :
 ∃ B : List Nat, B.Nodup /\ (∀ b ∈ B, q8 β s id' b /\ ∃ vs t', w.heap[b]? = some (.cells vs t' (0, 0))) /\ NV w (.sl e' none xs) v B := by
 rcases hw with ⟨t, rfl, h1, h2⟩ | ⟨t, h1, h2, h3⟩
 ·exact x8o h h1 h2 v hv
 ·exact x8n h h1 h2 h3 v hv
theorem y0.absorb {k : Nat} {env : List AV} {s : j9} (id id' : Nat) (pre post : List AV) {t e n e' : Nat} {cs : List AV} {xs' : List D} (hs : sat s id = .nst t e n cs) (hcs : cs = pre ++ .own e' id' xs' :: post)
 (hk : k <= id') (hne : id ≠ id') (hw : q6f s id' e' xs') :
 y0 k env s (AV.rens (y8 id') env) (j8 (p8 id' s) id (.nst t e n (AV.rens (y8 id') pre ++ .dp (.sl e' none xs') :: AV.rens (y8 id') post))) := fun C β a w hC hst => by
 subst hC
 exact hst.absorb hne hk (by rw [hs, hcs]) (fun v hv => hw.nv hst.inv v hv)
theorem St.thawN {C : Ctx} {β : x5} {env : List AV} {s : j9} {a : Act} {w : World} (h : St C β env s a w) {id : Nat} (t e : Nat) (hd : sat s id = .dead) :
 ∃ β', St C β' env (j8 s id (.nst t e 0 [])) a w /\ (∀ x v, AV.ok β (C.forb β s) w x v -> AV.ok β' (C.forb β' (j8 s id (.nst t e 0 []))) w x v) /\
  AV.ok β' (C.forb β' (j8 s id (.nst t e 0 []))) w (.own e id []) (.slice none 0 0) := by
 have hno : β id = .no := by have := h.inv.obs id; rw [hd] at this; exact this
 have hown : ∀ b o, own (bset β id (.nst (.slice none 0 0) 0 [])) (j8 s id (.nst t e 0 [])) b o -> own β s b o := by
  intro b o ho
  rcases q4y ho with ho | ho
  ·exact ho
  ·obtain ⟨i, ho⟩ := ho
   by_cases hi : i = id
   ·subst hi; simp [sat, bset] at ho
   ·simp [sat, hi] at ho
 have hblk : ∀ i b, q8 (bset β id (.nst (.slice none 0 0) 0 [])) (j8 s id (.nst t e 0 [])) i b -> q8 β s i b := by
  intro i b hb
  rcases t7 hb with ⟨_, hb⟩ | ⟨_, hb⟩
  ·exact hb
  ·simp only [q8, sat, if_true, bset] at hb
   obtain ⟨v', bs', h1, h2⟩ := hb
   simp only [w4q.nst.injEq, true_and] at h1
   obtain ⟨rfl, rfl⟩ := h1
   rcases h2 with ⟨_, h2⟩ | h2 <;> simp at h2
 have m : l3q β s w (bset β id (.nst (.slice none 0 0) 0 [])) (j8 s id (.nst t e 0 [])) w :=
  ⟨Nat.le_refl _, rfl, fun _ _ _ hc _ => hc, fun _ _ _ => rfl, fun b o ho => .inl (hown b o ho), fun i b hb => .inl ⟨i, hblk i b hb⟩, fun i => by
   by_cases hi : i = id
   ·subst hi; rw [hno]; trivial
   ·simp only [bset, hi, if_false]; exact .refl _⟩
 refine ⟨_, h.move m (fun i => ?_) (fun i j b hi hj => h.inv.inj i j b (hblk i b hi) (hblk j b hj)), fun x v hx => m.ok hx, ?_⟩
 ·rw [u5]
  by_cases hi : i = id
  ·subst hi
   simp only [if_true]
   exact ⟨.slice none 0 0, [], by simp [bset], by simp, by simp, .inl ⟨rfl, rfl, rfl⟩⟩
  ·simp only [hi, if_false]
   exact (h.inv.obs i).moves m (by simp [bset, hi]) (fun _ _ => rfl) rfl
 ·simp only [AV.ok, D.ok]
  exact ⟨⟨none, 0, rfl, ⟨Nat.le_refl _, by omega⟩, trivial, .inl trivial⟩, _, 0, by simp [bset, w4q.at], Nat.le_refl _, fun _ => rfl⟩
theorem r5q {ρ : Nat -> Option Nat} : ∀ {xs ys : List AV}, AV.rens ρ (xs ++ ys) = AV.rens ρ xs ++ AV.rens ρ ys := fun {xs ys} => by simp only [s6, List.map_append]
theorem k0i {ρ : Nat -> Option Nat} {xs : List AV} {j : Nat} {x : AV} : AV.rens ρ (xs.set j x) = (AV.rens ρ xs).set j (x.ren ρ) := by simp only [s6, List.map_set]
theorem y6v {C : Ctx} {β : x5} {s : j9} {w : World} (h : Inv C β s w) {id' e : Nat} {xs : List D} (hs : sat s id' = .prv e xs.length (j7 xs))
 (he : ∀ x ∈ xs, (z6 x).length = e) (hc : ∀ x ∈ xs, ∀ c ∈ z6 x, q3z c = true) (v : Value) (hv : AV.ok β (C.forb β s) w (.gow e id' xs.length) v) :
 ∃ B : List Nat, B.Nodup /\ (∀ b ∈ B, q8 β s id' b /\ ∃ vs t', w.heap[b]? = some (.cells vs t' (0, 0))) /\ NV w (.sl e none xs) v B := by
 have ho := h.obs id'
 rw [hs] at ho
 obtain ⟨u, bs, hb, h0, hl, htok⟩ := ho
 simp only [AV.ok] at hv
 obtain ⟨p, q, h1, _, h3, _⟩ := hv
 rw [hb] at h1
 obtain ⟨rfl, rfl⟩ := h1
 have hvu : v = u := h3 rfl
 subst hvu
 rcases htok with ⟨⟨a, rfl⟩, k2, rfl⟩ | ⟨b, cap', vs, t, rfl, k5, k6, k7, k8, k9, kc, k10, k11⟩
 ·have hx : xs = [] := List.length_eq_zero_iff.1 k2
  subst hx
  refine ⟨[], by simp, by simp, ?_⟩
  simp only [NV]
  exact ⟨a, 0, rfl, ⟨Nat.le_refl _, by omega⟩, trivial, .inl (by simp)⟩
 ·refine ⟨b :: bs, k10, fun q hq => ?_, ?_⟩
  ·rcases List.mem_cons.1 hq with rfl | hq
   ·exact ⟨by unfold q8; rw [hs]; exact ⟨_, bs, hb, .inl ⟨cap', rfl, kc⟩⟩, vs, t, k5⟩
   ·exact ⟨by unfold q8; rw [hs]; exact ⟨_, bs, hb, .inr hq⟩, h0 q hq⟩
  ·simp only [NV]
   exact ⟨_, cap', rfl, ⟨k7, k8⟩, trivial, .inr ⟨b, vs, t, bs, rfl, rfl, k5, k6, k9, k1g he hc k11⟩⟩
theorem z4b {β : x5} {O : Own} {w : World} {x : D} {v : Value} {bs : List Nat} (hx : q3z x = true) (h : NV w x v bs) : NX β O w (q5r x) v bs := by
 cases x with
 | any => cases hx
 | agg cs => cases hx
 | lit u =>
  simp only [NV] at h
  exact ⟨by show AV.ok β O w (.d (.lit u)) v; simp only [AV.ok, D.ok]; exact ⟨h.1, h.2.1⟩, h.2.2⟩
 | sl e nl xs => exact h
theorem z0z {β : x5} {O : Own} {w : World} : ∀ {cs : List D} {vs r : List Value} {bs : List Nat}, (∀ x ∈ cs, q3z x = true) -> NC w cs vs bs -> NXs β O w (cs.map q5r) (vs ++ r) bs
 | [], vs, r, bs, _, h => by
  simp only [NC] at h
  simp only [List.map_nil, NXs]
  exact h.2
 | c :: cs, vs, r, bs, hc, h => by
  simp only [NC] at h
  obtain ⟨v, q, b1, b2, rfl, rfl, h3, h4⟩ := h
  simp only [List.map_cons, List.cons_append, NXs]
  exact ⟨v, q ++ r, b1, b2, rfl, rfl, z4b (hc c (by simp)) h3, z0z (fun x hx => hc x (by simp [hx])) h4⟩
theorem k2f {β : x5} {O : Own} {w : World} {e : Nat} : ∀ {xs : List D} {vs : List Value} {bs : List Nat}, (∀ x ∈ xs, (z6 x).length = e) -> (∀ x ∈ xs, ∀ c ∈ z6 x, q3z c = true) ->
 NR w e xs vs bs -> NXs β O w (j7 xs) vs bs
 | [], vs, bs, _, _, h => by simpa [NXs, NR, j7] using h
 | x :: xs, vs, bs, he, hc, h => by
  have ih := fun r b2 => k2f (β := β) (O := O) (w := w) (e := e) (xs := xs) (vs := r) (bs := b2) (fun y hy => he y (by simp [hy])) (fun y hy => hc y (by simp [hy]))
  have hx := hc x (by simp)
  have hle := he x (by simp)
  rw [q7i]
  cases x with
  | agg cs =>
   simp only [NR] at h
   obtain ⟨us, r, b1, b2, rfl, hl, rfl, h3, h4⟩ := h
   refine m0q (by simpa using hl.trans hle.symm) ?_ (ih r b2 h4)
   simpa using z0z (r := []) hx h3
  | any => exact absurd (hx .any (by simp [z6])) (by simp [q3z])
  | lit u =>
   simp only [NR] at h
   obtain ⟨v, r, b1, b2, rfl, hl, rfl, h3, h4⟩ := h
   refine m0q (us := [v]) (by simp [z6]) ?_ (ih r b2 h4)
   simp only [z6, List.map_cons, List.map_nil, NXs]
   exact ⟨v, [], b1, [], rfl, by simp, z4b (hx _ (by simp [z6])) h3, rfl⟩
  | sl e' nl ys =>
   simp only [NR] at h
   obtain ⟨v, r, b1, b2, rfl, hl, rfl, h3, h4⟩ := h
   refine m0q (us := [v]) (by simp [z6]) ?_ (ih r b2 h4)
   simp only [z6, List.map_cons, List.map_nil, NXs]
   exact ⟨v, [], b1, [], rfl, by simp, z4b (hx _ (by simp [z6])) h3, rfl⟩
def q5k (s : j9) (id' e' : Nat) (xs : List D) : Prop := sat s id' = .prv e' xs.length (j7 xs) /\ (∀ x ∈ xs, (z6 x).length = e') /\ ∀ x ∈ xs, ∀ c ∈ z6 x, q3z c = true
theorem q5k.nv {C : Ctx} {β : x5} {s : j9} {w : World} (h : Inv C β s w) {id' e' : Nat} {xs : List D} (hw : q5k s id' e' xs) (v : Value) (hv : AV.ok β (C.forb β s) w (.gow e' id' xs.length) v) :
 ∃ B : List Nat, B.Nodup /\ (∀ b ∈ B, q8 β s id' b /\ ∃ vs t', w.heap[b]? = some (.cells vs t' (0, 0))) /\ NV w (.sl e' none xs) v B := y6v h hw.1 hw.2.1 hw.2.2 v hv
theorem k9t {β : x5} {s : j9} {id e n b : Nat} {cs : List AV} (hs : sat s id = .prv e n cs) (hb : q8 β s id b) (o : Nat) : own β s b o := ⟨id, by unfold q8 at hb; rw [hs] at hb ⊢; exact hb⟩
theorem k6i {α : Type} {cs : List α} {j : Nat} {x y : α} (hj : cs[j]? = some x) : cs = cs.take j ++ x :: cs.drop (j + 1) /\ cs.set j y = cs.take j ++ y :: cs.drop (j + 1) /\ (cs.take j).length = j := by
 obtain ⟨hlt, rfl⟩ := List.getElem?_eq_some_iff.1 hj
 refine ⟨?_, List.set_eq_take_append_cons_drop .. |>.trans (if_pos hlt), by simp; omega⟩
 rw [<- List.drop_eq_getElem_cons hlt, List.take_append_drop]
theorem St.absorbP {C : Ctx} {β : x5} {env : List AV} {s : j9} {a : Act} {w : World} (h : St C β env s a w) {id id' : Nat} (hne : id ≠ id') (hk : C.k <= id') {e n j e' : Nat} {cs : List AV} {xs' : List D}
 (hs : sat s id = .prv e n cs) (hj : cs[j]? = some (.gow e' id' xs'.length)) (hw : q5k s id' e' xs') :
 ∃ β', St C β' (AV.rens (y8 id') env) (j8 (p8 id' s) id (.prv e n ((AV.rens (y8 id') cs).set j (.dp (.sl e' none xs'))))) a w := by
 have hnv := hw.nv h.inv
 generalize hd : D.sl e' none xs' = d at hnv ⊢
 obtain ⟨hsp, hsp2, hpl0⟩ := k6i (y := .dp d) hj
 have hset : (AV.rens (y8 id') cs).set j (.dp d) = AV.rens (y8 id') (cs.take j) ++ .dp d :: AV.rens (y8 id') (cs.drop (j + 1)) := by
  have e1 := congrArg (AV.rens (y8 id')) hsp2
  rw [k0i, r5q] at e1
  simpa [AV.rens, AV.ren] using e1
 rw [hset]
 generalize hpre : cs.take j = pre at hsp hpl0 ⊢
 generalize hpost : cs.drop (j + 1) = post at hsp ⊢
 subst hsp
 have ho := h.inv.obs id
 rw [hs] at ho
 obtain ⟨u, bs, hb, h0, hl, htok⟩ := ho
 rcases htok with ⟨_, h1, _⟩ | ⟨b, cap, vs, t, rfl, k5, k6, k7, k8, k9, kc, k10, k11⟩
 ·rw [h1] at hl; simp at hl
 obtain ⟨hpl, b1, b2, hbs, hn1, hn2⟩ := q0d k11
 simp only [NXs] at hn2
 obtain ⟨v, r, c1, c2, hvr, hb2, hx, hn3⟩ := hn2
 obtain ⟨hxo, hc1⟩ : AV.ok β (C.forb β s) w (.gow e' id' xs'.length) v /\ c1 = [] := hx
 subst hc1
 rw [List.nil_append] at hb2
 subst hb2
 subst hbs
 obtain ⟨B, hB1, hB2, hB3⟩ := hnv v hxo
 have hm : q8 β s id b := by unfold q8; rw [hs]; exact ⟨_, _, hb, .inl ⟨cap, rfl, kc⟩⟩
 have hmb : ∀ q ∈ b1 ++ b2, q8 β s id q := fun q hq => by unfold q8; rw [hs]; exact ⟨_, _, hb, .inr hq⟩
 have hdis : ∀ q ∈ B, ¬ q8 β s id q := fun q hq h2 => hne (h.inv.inj id id' q h2 (hB2 q hq).1)
 let β' : x5 := bset (bset β id' .no) id (.nst (.slice (some ⟨b, 0, none⟩) n cap) n (b1 ++ (B ++ b2)))
 let s' : j9 := j8 (p8 id' s) id (.prv e n (AV.rens (y8 id') pre ++ .dp d :: AV.rens (y8 id') post))
 have hβid : β' id = .nst (.slice (some ⟨b, 0, none⟩) n cap) n (b1 ++ (B ++ b2)) := by simp [β', bset]
 have hβo : ∀ i, i ≠ id -> i ≠ id' -> β' i = β i := fun i h1 h2 => by simp [β', bset, h1, h2]
 have sat' : ∀ i, sat s' i = if i = id then .prv e n (AV.rens (y8 id') pre ++ .dp d :: AV.rens (y8 id') post) else if i = id' then .dead else (sat s i).kill id' := fun i => q1o
 have hblk : ∀ i q, q8 β' s' i q -> q8 β s i q ∨ i = id /\ q ∈ B := by
  intro i q hq
  unfold q8 at hq
  rw [sat'] at hq
  by_cases hi : i = id
  ·subst hi
   rw [if_pos rfl] at hq
   simp only at hq
   obtain ⟨v', q', h1, h2⟩ := hq
   rw [hβid] at h1
   cases h1
   rcases h2 with ⟨cap', h2, _⟩ | h2
   ·simp at h2
    rw [<- h2.1]; exact .inl hm
   ·rcases List.mem_append.1 h2 with h2 | h2
    ·exact .inl (hmb q (by simp [h2]))
    ·rcases List.mem_append.1 h2 with h2 | h2
     ·exact .inr ⟨rfl, h2⟩
     ·exact .inl (hmb q (by simp [h2]))
  ·rw [if_neg hi] at hq
   by_cases hi' : i = id'
   ·rw [if_pos hi'] at hq; exact hq.elim
   ·rw [if_neg hi'] at hq
    refine .inl ?_
    unfold q8
    cases hsi : sat s i <;> rw [hsi] at hq <;> simpa [Ob.kill, hβo i hi hi'] using hq
 have hown : ∀ q o, own β' s' q o -> own β s q o := by
  rintro q o ⟨i, ho⟩
  rw [sat'] at ho
  by_cases hi : i = id
  ·subst hi
   rw [if_pos rfl] at ho
   simp only at ho
   obtain ⟨v', q', h1, h2⟩ := ho
   rw [hβid] at h1
   cases h1
   rcases h2 with ⟨cap', h2, _⟩ | h2
   ·simp at h2
    exact ⟨i, by rw [hs]; exact ⟨_, _, hb, .inl ⟨cap, by rw [h2.1], kc⟩⟩⟩
   ·rcases List.mem_append.1 h2 with h2 | h2
    ·exact ⟨i, by rw [hs]; exact ⟨_, _, hb, .inr (by simp [h2])⟩⟩
    ·rcases List.mem_append.1 h2 with h2 | h2
     ·exact k9t hw.1 (hB2 q h2).1 o
     ·exact ⟨i, by rw [hs]; exact ⟨_, _, hb, .inr (by simp [h2])⟩⟩
  ·rw [if_neg hi] at ho
   by_cases hi' : i = id'
   ·rw [if_pos hi'] at ho; exact ho.elim
   ·rw [if_neg hi'] at ho
    refine ⟨i, ?_⟩
    cases hsi : sat s i <;> rw [hsi] at ho <;> simpa [Ob.kill, hβo i hi hi'] using ho
 have hval : ∀ x v, AV.ok β (C.forb β s) w x v -> AV.ok β' (C.forb β' s') w (x.ren (y8 id')) v := fun x v hx =>
  AV.ok_mono (fun q o v hc hn => ⟨hc, fun hf => hn (hf.imp (fun x => x) (hown q o))⟩) (fun i => by
   by_cases hi : i = id
   ·subst hi
    rw [hβid]
    simp only [bset, if_neg hne]
    rw [hb]
    exact ⟨_, _, _, rfl, Nat.le_refl _, fun _ => rfl⟩
   ·simp only [β']
    simp only [bset, if_neg hi]
    exact .refl _) _ _ (AV.ok_ren (β' := bset β id' .no) (fun i j hij => by
  unfold y8 at hij
  split at hij
  ·cases hij
  ·cases hij; simp [bset, *]) x v hx)
 have hnone : β' id' = .no := by simp [β', bset]; exact fun h => hne h.symm
 refine ⟨β', h.defers, ⟨h.inv.size, h.inv.io, h.inv.keep, h.inv.blks, fun q o ho => h.inv.ownd q o (hown q o ho), fun i q hq => ?_, fun i hi => ?_, h.inv.low, fun i => ?_, fun i j q hi hj => ?_⟩, by rw [j5q]; exact h.len, fun i x hx => ?_⟩
 ·rcases hblk i q hq with h1 | ⟨_, h1⟩
  ·exact h.inv.ownB i q h1
  ·exact h.inv.ownB id' q (hB2 q h1).1
 ·have h1 := h.inv.pl i hi
  by_cases hii : i = id
  ·subst hii
   rw [hβid]
   rw [hb] at h1
   exact h1.trans ⟨_, _, _, rfl, Nat.le_refl _, fun _ => rfl⟩
  ·rw [hβo i hii (by omega)]; exact h1
 ·show k4s β' (C.forb β' s') w i (sat s' i)
  rw [sat']
  by_cases hi : i = id
  ·subst hi
   rw [if_pos rfl]
   refine ⟨_, _, hβid, fun q hq => ?_, ?_, .inr ⟨b, cap, vs, t, rfl, k5, k6, k7, k8, k9, kc, ?_, ?_⟩⟩
   ·rcases List.mem_append.1 hq with hq | hq
    ·exact h0 q (by simp [hq])
    ·rcases List.mem_append.1 hq with hq | hq
     ·exact (hB2 q hq).2
     ·exact h0 q (by simp [hq])
   ·rw [<- hl]; simp [j5q]
   ·have k10' := k10
    rw [List.nodup_cons, List.nodup_append] at k10'
    obtain ⟨p1, p2, p3, p4⟩ := k10'
    rw [List.nodup_cons, List.nodup_append, List.nodup_append]
    refine ⟨fun hq => ?_, p2, ⟨hB1, p3, fun x hx y hy he => hdis x hx (he ▸ hmb y (by simp [hy]))⟩, fun x hx y hy he => ?_⟩
    ·rcases List.mem_append.1 hq with hq | hq
     ·exact p1 (by simp [hq])
     ·rcases List.mem_append.1 hq with hq | hq
      ·exact hdis b hq hm
      ·exact p1 (by simp [hq])
    ·rcases List.mem_append.1 hy with hy | hy
     ·exact hdis y hy (he ▸ hmb x (by simp [hx]))
     ·exact p4 x hx y hy he
   ·have e1 := NXs.imp (f := AV.ren (y8 id')) (β' := β') (O' := C.forb β' s') (w' := w) (fun x v => d2q (hval x v)) (fun _ _ => rfl) hn1
    have e2 := NXs.imp (f := AV.ren (y8 id')) (β' := β') (O' := C.forb β' s') (w' := w) (fun x v => d2q (hval x v)) (fun _ _ => rfl) hn3
    rw [<- s6] at e1 e2
    have e3 : NXs β' (C.forb β' s') w (.dp d :: AV.rens (y8 id') post) (vs.toList.drop pre.length) (B ++ b2) := by
     rw [hvr]
     simp only [NXs]
     exact ⟨v, r, B, b2, rfl, rfl, hB3, e2⟩
    have e4 := m0q (us := vs.toList.take pre.length) (by rw [List.length_take, j5q]; omega) (h1q (vs := vs.toList.take pre.length) e1 (by rw [j5q, List.take_take, Nat.min_self])) e3
    rwa [List.take_append_drop] at e4
  ·rw [if_neg hi]
   by_cases hi' : i = id'
   ·rw [if_pos hi', hi']; exact hnone
   ·rw [if_neg hi']
    have ho := h.inv.obs i
    cases hsi : sat s i with
    | dead => rw [hsi] at ho; exact (hβo i hi hi').trans ho
    | obj t' cs =>
     rw [hsi] at ho
     obtain ⟨q, us, h1, h2, h3, h4⟩ := ho
     refine ⟨q, us, (hβo i hi hi').trans h1, h2, h3, h4.imp fun us' hu => ?_⟩
     rw [s6]
     exact k5w hval hu
    | tok t' e2 n' => rw [hsi] at ho; obtain ⟨u', h1, h2⟩ := ho; exact ⟨u', (hβo i hi hi').trans h1, h2⟩
    | gro t' e2 n' cs =>
     rw [hsi] at ho
     obtain ⟨u', h1, h3, h2⟩ := ho
     refine ⟨u', (hβo i hi hi').trans h1, h3, ?_⟩
     rcases h2 with h2 | ⟨q, cap', us, g2, g3, g4, g5, g6, g7, pre', rest, g8, g9⟩
     ·exact .inl h2
     ·exact .inr ⟨q, cap', us, g2, g3, g4, g5, g6, g7, pre', rest, g8, D.oks_mono (fun q o v hc hn => ⟨hc, fun hf => hn (hf.imp (fun x => x) fun ho => hown q o ho)⟩) _ _ g9⟩
    | nst t' e2 n' cs =>
     rw [hsi] at ho
     obtain ⟨u', bs', h1, h3, h2⟩ := ho
     refine ⟨u', bs', (hβo i hi hi').trans h1, h3, ?_⟩
     rw [s6]
     exact h2.imp (fun x v => d2q (hval x v)) (fun _ _ => rfl) (fun _ _ _ => rfl)
    | prv e2 n' cs =>
     rw [hsi] at ho
     obtain ⟨u', bs', h1, h3, h2⟩ := ho
     refine ⟨u', bs', (hβo i hi hi').trans h1, h3, ?_⟩
     rw [s6]
     exact h2.imp (fun x v => d2q (hval x v)) (fun _ _ => rfl) (fun _ _ _ _ => rfl)
 ·rcases hblk i q hi with h1 | ⟨h1, h1'⟩ <;> rcases hblk j q hj with h2 | ⟨h2, h2'⟩
  ·exact h.inv.inj i j q h1 h2
  ·subst h2
   have := h.inv.inj i id' q h1 (hB2 q h2').1
   subst this
   unfold q8 at hi
   rw [sat', if_neg (fun h => hne h.symm), if_pos rfl] at hi
   exact hi.elim
  ·subst h1
   have := h.inv.inj j id' q h2 (hB2 q h1').1
   subst this
   unfold q8 at hj
   rw [sat', if_neg (fun h => hne h.symm), if_pos rfl] at hj
   exact hj.elim
  ·rw [h1, h2]
 ·rw [q1k] at hx
  cases hy : env[i]? with
  | none => rw [hy] at hx; cases hx
  | some y => rw [hy] at hx; cases hx; exact hval _ _ (h.env i y hy)
theorem k0r {e : Nat} : ∀ {xs : List D}, (∀ x ∈ xs, (z6 x).length = e) -> (j7 xs).length = xs.length * e
 | [], _ => by simp [j7]
 | y :: ys, he => by rw [q7i, lap, List.length_map, he y (by simp), k0r (fun x hx => he x (by simp [hx])), List.length_cons, Nat.add_mul]; omega
theorem St.extract {C : Ctx} {β : x5} {env : List AV} {s : j9} {a : Act} {w : World} (h : St C β env s a w) {id c j e n e' : Nat} {nl : Option Bool} {cs : List AV} {xs : List D}
 (hs : sat s id = .prv e n cs) (hj : cs[j]? = some (.dp (.sl e' nl xs))) (hd : sat s c = .dead) (hk : C.k <= c)
 (he : ∀ x ∈ xs, (z6 x).length = e') (hc : ∀ x ∈ xs, ∀ c ∈ z6 x, q3z c = true) :
 ∃ β', St C β' env (j8 (j8 s c (.prv e' xs.length (j7 xs))) id (.prv e n (cs.set j (.gow e' c xs.length)))) a w := by
 have hne : id ≠ c := fun h => by rw [h, hd] at hs; cases hs
 obtain ⟨hsp, hsp2, hpl0⟩ := k6i (y := .gow e' c xs.length) hj
 rw [hsp2]
 generalize hpre : cs.take j = pre at hsp hpl0 ⊢
 generalize hpost : cs.drop (j + 1) = post at hsp ⊢
 subst hsp
 have ho := h.inv.obs id
 rw [hs] at ho
 obtain ⟨u, bs, hb, h0, hl, htok⟩ := ho
 have hno : β c = .no := by have := h.inv.obs c; rw [hd] at this; exact this
 rcases htok with ⟨_, h1, _⟩ | ⟨b, cap, vs, t, rfl, k5, k6, k7, k8, k9, kc, k10, k11⟩
 ·rw [h1] at hl; simp at hl
 obtain ⟨hpl, b1, b2', hbs, hn1, hn2⟩ := q0d k11
 simp only [NXs] at hn2
 obtain ⟨v, r, B, b2, hvr, hb2, hx, hn3⟩ := hn2
 subst hb2
 subst hbs
 have hx : NV w (.sl e' nl xs) v B := hx
 -- the child's claims
 obtain ⟨B', hB', hchild, hgv⟩ : ∃ B', (∀ (q o : Nat), ((∃ cap, v = .slice (some ⟨q, 0, none⟩) xs.length cap /\ 0 < cap) ∨ q ∈ B') -> q ∈ B /\ o = o) /\
  ((∀ b ∈ B', ∃ vs t', w.heap[b]? = some (.cells vs t' (0, 0))) /\ ∀ β' F, k8k β' F w e' xs.length v B' (j7 xs)) /\
  ((∃ a, v = .slice a 0 0 /\ xs.length = 0) ∨ ∃ b cap, v = .slice (some ⟨b, 0, none⟩) xs.length cap /\ xs.length <= cap /\ cap < 2 ^ 63) := by
  have hlen := k0r he
  simp only [NV] at hx
  obtain ⟨ad, cap2, rfl, hlc, hnl, hx⟩ := hx
  have hz : cap2 = 0 -> ∃ B', (∀ (q o : Nat), ((∃ cap, Value.slice ad xs.length cap2 = .slice (some ⟨q, 0, none⟩) xs.length cap /\ 0 < cap) ∨ q ∈ B') -> q ∈ B /\ o = o) /\
   ((∀ b ∈ B', ∃ vs t', w.heap[b]? = some (.cells vs t' (0, 0))) /\ ∀ β' F, k8k β' F w e' xs.length (.slice ad xs.length cap2) B' (j7 xs)) /\
   ((∃ a, Value.slice ad xs.length cap2 = .slice a 0 0 /\ xs.length = 0) ∨ ∃ b cap, Value.slice ad xs.length cap2 = .slice (some ⟨b, 0, none⟩) xs.length cap /\ xs.length <= cap /\ cap < 2 ^ 63) := fun hc0 => by
   have hx0 : xs.length = 0 := by have := hlc.1; omega
   refine ⟨[], fun q o hq => ?_, ⟨by simp, fun β' F => ⟨hlen, .inl ⟨⟨ad, by rw [hx0, hc0]⟩, hx0, rfl⟩⟩⟩, .inl ⟨ad, by rw [hx0, hc0], hx0⟩⟩
   rcases hq with ⟨q2, hq, hq0⟩ | hq
   ·simp only [Value.slice.injEq] at hq; omega
   ·simp at hq
  by_cases hc0 : cap2 = 0
  ·exact hz hc0
  rcases hx with ⟨hc1, _⟩ | ⟨g, us, tt, B2, rfl, rfl, g1, g2, g3, g4⟩
  ·exact absurd hc1 hc0
  ·have hnd : (g :: B2).Nodup := by
    have h1 := (List.nodup_cons.1 k10).2
    exact (List.nodup_append.1 (List.nodup_append.1 h1).2.1).1
   refine ⟨B2, fun q o hq => ?_, ⟨fun q hq => h0 q (by simp [hq]), fun β' F => ⟨hlen, .inr ⟨g, cap2, us, tt, rfl, g1, g2, hlc.1, hlc.2, g3, by omega, hnd, k2f he hc g4⟩⟩⟩, .inr ⟨g, cap2, rfl, hlc.1, hlc.2⟩⟩
   rcases hq with ⟨q2, hq, hq0⟩ | hq
   ·simp only [Value.slice.injEq, Option.some.injEq, Addr.mk.injEq] at hq
    exact ⟨by simp [hq.1.1], rfl⟩
   ·exact ⟨by simp [hq], rfl⟩
 have hm : q8 β s id b := by unfold q8; rw [hs]; exact ⟨_, _, hb, .inl ⟨cap, rfl, kc⟩⟩
 have hmb : ∀ q ∈ b1 ++ (B ++ b2), q8 β s id q := fun q hq => by unfold q8; rw [hs]; exact ⟨_, _, hb, .inr hq⟩
 have hnod := List.nodup_cons.1 k10
 have hn1' := List.nodup_append.1 hnod.2
 have hn2' := List.nodup_append.1 hn1'.2.1
 let β' : x5 := bset (bset β c (.nst v xs.length B')) id (.nst (.slice (some ⟨b, 0, none⟩) n cap) n (b1 ++ b2))
 let s' : j9 := j8 (j8 s c (.prv e' xs.length (j7 xs))) id (.prv e n (pre ++ .gow e' c xs.length :: post))
 have hβid : β' id = .nst (.slice (some ⟨b, 0, none⟩) n cap) n (b1 ++ b2) := by simp [β', bset]
 have hβc : β' c = .nst v xs.length B' := by simp [β', bset, Ne.symm hne]
 have hβo : ∀ i, i ≠ id -> i ≠ c -> β' i = β i := fun i h1 h2 => by simp [β', bset, h1, h2]
 have sat' : ∀ i, sat s' i = if i = id then .prv e n (pre ++ .gow e' c xs.length :: post) else if i = c then .prv e' xs.length (j7 xs) else sat s i := fun i => by
  simp only [s', u5]
 have hblk : ∀ i q, q8 β' s' i q -> (i = id /\ (q = b ∨ q ∈ b1 ++ b2)) ∨ (i = c /\ q ∈ B) ∨ (i ≠ id /\ i ≠ c /\ q8 β s i q) := by
  intro i q hq
  unfold q8 at hq
  rw [sat'] at hq
  by_cases hi : i = id
  ·subst hi
   rw [if_pos rfl] at hq
   simp only at hq
   obtain ⟨v', q', h1, h2⟩ := hq
   rw [hβid] at h1
   cases h1
   refine .inl ⟨rfl, ?_⟩
   rcases h2 with ⟨cap', h2, _⟩ | h2
   ·simp at h2
    exact .inl h2.1.symm
   ·exact .inr h2
  ·rw [if_neg hi] at hq
   by_cases hi' : i = c
   ·subst hi'
    rw [if_pos rfl] at hq
    simp only at hq
    obtain ⟨v', q', h1, h2⟩ := hq
    rw [hβc] at h1
    cases h1
    exact .inr (.inl ⟨rfl, (hB' q 0 h2).1⟩)
   ·rw [if_neg hi'] at hq
    refine .inr (.inr ⟨hi, hi', ?_⟩)
    unfold q8
    cases hsi : sat s i <;> rw [hsi] at hq <;> simpa [hβo i hi hi'] using hq
 have hblk2 : ∀ i q, q8 β' s' i q -> ∃ i', q8 β s i' q := fun i q hq => by
  rcases hblk i q hq with ⟨rfl, rfl | h1⟩ | ⟨rfl, h1⟩ | ⟨_, _, h1⟩
  ·exact ⟨_, hm⟩
  ·refine ⟨i, hmb q ?_⟩
   rcases List.mem_append.1 h1 with h1 | h1 <;> simp [h1]
  ·exact ⟨id, hmb q (by simp [h1])⟩
  ·exact ⟨i, h1⟩
 have hown : ∀ q o, own β' s' q o -> own β s q o := by
  rintro q o ⟨i, ho⟩
  by_cases hi : i = id
  ·subst hi
   rw [sat', if_pos rfl] at ho
   have : q8 β' s' i q := by unfold q8; rw [sat', if_pos rfl]; exact ho
   obtain ⟨_, h1⟩ | ⟨h1, _⟩ | ⟨h1, _⟩ := hblk i q this
   ·refine k9t hs ?_ o
    rcases h1 with rfl | h1
    ·exact hm
    ·refine hmb q ?_
     rcases List.mem_append.1 h1 with h1 | h1 <;> simp [h1]
   ·exact absurd h1 hne
   ·exact absurd rfl h1
  ·by_cases hi' : i = c
   ·subst hi'
    rw [sat', if_neg hi, if_pos rfl] at ho
    have : q8 β' s' i q := by unfold q8; rw [sat', if_neg hi, if_pos rfl]; exact ho
    obtain ⟨h1, _⟩ | ⟨_, h1⟩ | ⟨_, h1, _⟩ := hblk i q this
    ·exact absurd h1 hi
    ·exact k9t hs (hmb q (by simp [h1])) o
    ·exact absurd rfl h1
   ·rw [sat', if_neg hi, if_neg hi'] at ho
    refine ⟨i, ?_⟩
    cases hsi : sat s i <;> rw [hsi] at ho <;> simpa [hβo i hi hi'] using ho
 have hple : ∀ i, v8q (β i) (β' i) := fun i => by
  by_cases hi : i = id
  ·subst hi
   rw [hβid, hb]
   exact ⟨_, _, _, rfl, Nat.le_refl _, fun _ => rfl⟩
  ·by_cases hi' : i = c
   ·subst hi'; rw [hno]; trivial
   ·rw [hβo i hi hi']; exact .refl _
 have hval : ∀ x v, AV.ok β (C.forb β s) w x v -> AV.ok β' (C.forb β' s') w x v := fun x v hx =>
  AV.ok_mono (fun q o v hc hn => ⟨hc, fun hf => hn (hf.imp (fun x => x) (hown q o))⟩) hple _ _ hx
 refine ⟨β', h.defers, ⟨h.inv.size, h.inv.io, h.inv.keep, h.inv.blks, fun q o ho => h.inv.ownd q o (hown q o ho), fun i q hq => ?_, fun i hi => (h.inv.pl i hi).trans (hple i), h.inv.low, fun i => ?_, fun i j q hi hj => ?_⟩, h.len, fun i x hx => hval _ _ (h.env i x hx)⟩
 ·obtain ⟨i', h1⟩ := hblk2 i q hq
  exact h.inv.ownB i' q h1
 ·show k4s β' (C.forb β' s') w i (sat s' i)
  rw [sat']
  by_cases hi : i = id
  ·subst hi
   rw [if_pos rfl]
   refine ⟨_, _, hβid, fun q hq => h0 q (by rcases List.mem_append.1 hq with h1 | h1 <;> simp [h1]), by rw [<- hl]; simp, .inr ⟨b, cap, vs, t, rfl, k5, k6, k7, k8, k9, kc, ?_, ?_⟩⟩
   ·refine List.nodup_cons.2 ⟨fun hq => hnod.1 (by rcases List.mem_append.1 hq with h1 | h1 <;> simp [h1]), List.nodup_append.2 ⟨hn1'.1, hn2'.2.1, fun x hx y hy => hn1'.2.2 x hx y (by simp [hy])⟩⟩
   ·have e1 := NXs.imp (f := fun x => x) (β' := β') (O' := C.forb β' s') (w' := w) (s9q hval) (fun _ _ => rfl) hn1
    have e2 := NXs.imp (f := fun x => x) (β' := β') (O' := C.forb β' s') (w' := w) (s9q hval) (fun _ _ => rfl) hn3
    rw [List.map_id'] at e1 e2
    have e3 : NXs β' (C.forb β' s') w (.gow e' c xs.length :: post) (vs.toList.drop pre.length) b2 := by
     rw [hvr]
     simp only [NXs]
     refine ⟨v, r, [], b2, rfl, rfl, ⟨?_, rfl⟩, e2⟩
     show AV.ok β' (C.forb β' s') w (.gow e' c xs.length) v
     simp only [AV.ok]
     exact ⟨v, xs.length, by rw [hβc]; exact ⟨rfl, rfl⟩, Nat.le_refl _, fun _ => rfl, hgv⟩
    have e4 := m0q (us := vs.toList.take pre.length) (by rw [List.length_take]; omega) (h1q (vs := vs.toList.take pre.length) e1 (by rw [List.take_take, Nat.min_self])) e3
    rwa [List.take_append_drop] at e4
  ·rw [if_neg hi]
   by_cases hi' : i = c
   ·subst hi'
    rw [if_pos rfl]
    exact ⟨v, B', hβc, hchild.1, hchild.2 _ _⟩
   ·rw [if_neg hi']
    have ho := h.inv.obs i
    cases hsi : sat s i with
    | dead => rw [hsi] at ho; exact (hβo i hi hi').trans ho
    | obj t' cs =>
     rw [hsi] at ho
     obtain ⟨q, us, h1, h2, h3, h4⟩ := ho
     exact ⟨q, us, (hβo i hi hi').trans h1, h2, h3, h4.imp fun us' hu => k9p hval hu⟩
    | tok t' e2 n' => rw [hsi] at ho; obtain ⟨u', h1, h2⟩ := ho; exact ⟨u', (hβo i hi hi').trans h1, h2⟩
    | gro t' e2 n' cs =>
     rw [hsi] at ho
     obtain ⟨u', h1, h3, h2⟩ := ho
     refine ⟨u', (hβo i hi hi').trans h1, h3, ?_⟩
     rcases h2 with h2 | ⟨q, cap', us, g2, g3, g4, g5, g6, g7, pre', rest, g8, g9⟩
     ·exact .inl h2
     ·exact .inr ⟨q, cap', us, g2, g3, g4, g5, g6, g7, pre', rest, g8, D.oks_mono (fun q o v hc hn => ⟨hc, fun hf => hn (hf.imp (fun x => x) fun ho => hown q o ho)⟩) _ _ g9⟩
    | nst t' e2 n' cs =>
     rw [hsi] at ho
     obtain ⟨u', bs', h1, h3, h2⟩ := ho
     refine ⟨u', bs', (hβo i hi hi').trans h1, h3, ?_⟩
     have := h2.imp (f := fun x => x) (s9q hval) (fun _ _ => rfl) (fun _ _ _ => rfl)
     rwa [List.map_id'] at this
    | prv e2 n' cs =>
     rw [hsi] at ho
     obtain ⟨u', bs', h1, h3, h2⟩ := ho
     refine ⟨u', bs', (hβo i hi hi').trans h1, h3, ?_⟩
     have := h2.imp (f := fun x => x) (s9q hval) (fun _ _ => rfl) (fun _ _ _ _ => rfl)
     rwa [List.map_id'] at this
 ·have hdisj : ∀ q, q ∈ B -> ¬ (q = b ∨ q ∈ b1 ++ b2) := fun q hq h1 => by
   rcases h1 with rfl | h1
   ·exact hnod.1 (by simp [hq])
   ·rcases List.mem_append.1 h1 with h1 | h1
    ·exact hn1'.2.2 q h1 q (by simp [hq]) rfl
    ·exact hn2'.2.2 q hq q h1 rfl
  have hid : ∀ q, (q = b ∨ q ∈ b1 ++ b2) -> q8 β s id q := fun q h1 => by
   rcases h1 with rfl | h1
   ·exact hm
   ·exact hmb q (by rcases List.mem_append.1 h1 with h1 | h1 <;> simp [h1])
  rcases hblk i q hi with ⟨a1, d1⟩ | ⟨a1, d1⟩ | ⟨a1, a1', d1⟩ <;> rcases hblk j q hj with ⟨a2, d2⟩ | ⟨a2, d2⟩ | ⟨a2, a2', d2⟩
  ·rw [a1, a2]
  ·exact absurd d1 (hdisj q d2)
  ·exact absurd (h.inv.inj _ _ q d2 (hid q d1)) a2
  ·exact absurd d2 (hdisj q d1)
  ·rw [a1, a2]
  ·exact absurd (h.inv.inj _ _ q d2 (hmb q (by simp [d1]))) a2
  ·exact absurd (h.inv.inj _ _ q d1 (hid q d2)) a1
  ·exact absurd (h.inv.inj _ _ q d1 (hmb q (by simp [d2]))) a1
  ·exact h.inv.inj i j q d1 d2
theorem y0.extract {k : Nat} {env : List AV} {s : j9} (id c j : Nat) {e n e' : Nat} {nl : Option Bool} {cs : List AV} {xs : List D}
 (hs : sat s id = .prv e n cs) (hj : cs[j]? = some (.dp (.sl e' nl xs))) (hd : sat s c = .dead) (hk : k <= c)
 (he : ∀ x ∈ xs, (z6 x).length = e') (hc : ∀ x ∈ xs, ∀ c ∈ z6 x, q3z c = true) :
 y0 k env s env (j8 (j8 s c (.prv e' xs.length (j7 xs))) id (.prv e n (cs.set j (.gow e' c xs.length)))) := fun C β a w hC hst => by
 subst hC
 exact hst.extract hs hj hd hk he hc
theorem j5v {w : World} {e : Nat} {nl : Option Bool} {xs : List D} {v : Value} {B : List Nat} (hx : NV w (.sl e nl xs) v B) (hnd : B.Nodup) (h0 : ∀ b ∈ B, ∃ vs t', w.heap[b]? = some (.cells vs t' (0, 0)))
 (he : ∀ x ∈ xs, (z6 x).length = e) (hc : ∀ x ∈ xs, ∀ c ∈ z6 x, q3z c = true) :
 ∃ B', (∀ q : Nat, ((∃ cap, v = .slice (some ⟨q, 0, none⟩) xs.length cap /\ 0 < cap) ∨ q ∈ B') -> q ∈ B) /\
  ((∀ b ∈ B', ∃ vs t', w.heap[b]? = some (.cells vs t' (0, 0))) /\ ∀ β' F, k8k β' F w e xs.length v B' (j7 xs)) /\
  ((∃ a, v = .slice a 0 0 /\ xs.length = 0) ∨ ∃ b cap, v = .slice (some ⟨b, 0, none⟩) xs.length cap /\ xs.length <= cap /\ cap < 2 ^ 63) := by
 have hlen := k0r he
 simp only [NV] at hx
 obtain ⟨ad, cap2, rfl, hlc, hnl, hx⟩ := hx
 by_cases hc0 : cap2 = 0
 ·have hx0 : xs.length = 0 := by have := hlc.1; omega
  refine ⟨[], fun q hq => ?_, ⟨by simp, fun β' F => ⟨hlen, .inl ⟨⟨ad, by rw [hx0, hc0]⟩, hx0, rfl⟩⟩⟩, .inl ⟨ad, by rw [hx0, hc0], hx0⟩⟩
  rcases hq with ⟨q2, hq, hq0⟩ | hq
  ·simp only [Value.slice.injEq] at hq; omega
  ·simp at hq
 rcases hx with ⟨hc1, _⟩ | ⟨g, us, tt, B2, rfl, rfl, g1, g2, g3, g4⟩
 ·exact absurd hc1 hc0
 ·refine ⟨B2, fun q hq => ?_, ⟨fun q hq => h0 q (by simp [hq]), fun β' F => ⟨hlen, .inr ⟨g, cap2, us, tt, rfl, g1, g2, hlc.1, hlc.2, g3, by omega, hnd, k2f he hc g4⟩⟩⟩, .inr ⟨g, cap2, rfl, hlc.1, hlc.2⟩⟩
  rcases hq with ⟨q2, hq, hq0⟩ | hq
  ·simp only [Value.slice.injEq, Option.some.injEq, Addr.mk.injEq] at hq
   simp [hq.1.1]
  ·simp [hq]
mutual
theorem NV.ok {O : Own} {w : World} : ∀ {x : D} {v : Value} {bs : List Nat}, NV w x v bs -> (∀ b ∈ bs, ∀ o, ¬ O b o) -> D.ok O w x v
 | .any, _, _ => fun h _ => h.elim
 | .agg _, _, _ => fun h _ => h.elim
 | .lit u, v, bs => fun h _ => by
  simp only [NV] at h
  simp only [D.ok]
  exact ⟨h.1, h.2.1⟩
 | .sl e nl xs, v, bs => fun h hO => by
  simp only [NV] at h
  simp only [D.ok]
  obtain ⟨a, cap, rfl, h2, h3, h4⟩ := h
  refine ⟨a, cap, rfl, h2, h3, ?_⟩
  rcases h4 with ⟨_, rfl, _⟩ | ⟨b, vs, t, bs', rfl, rfl, h5, h6, h7, h8⟩
  ·exact .inl rfl
  ·refine .inr ⟨b, 0, rfl, NR.row h8 (fun q hq => hO q (by simp [hq])) fun j u hj => ?_⟩
   refine ⟨?_, hO b (by simp) _, h7 u (List.mem_of_getElem? hj)⟩
   simp only [World.cell?, h5, Option.isSome_none, bft, if_false, Nat.zero_add]
   simpa using hj
theorem NC.oks {O : Own} {w : World} : ∀ {xs : List D} {vs : List Value} {bs : List Nat}, NC w xs vs bs -> (∀ v ∈ vs, one v = true) -> (∀ b ∈ bs, ∀ o, ¬ O b o) -> D.oks O w xs vs
 | [], vs, bs => fun h _ _ => by
  simp only [NC] at h
  simp only [D.oks]
  exact h.1
 | c :: cs, vs, bs => fun h h1 hO => by
  simp only [NC] at h
  obtain ⟨v, r, b1, b2, rfl, rfl, h3, h4⟩ := h
  simp only [D.oks]
  exact ⟨v, r, rfl, h1 v (by simp), NV.ok h3 (fun b hb => hO b (by simp [hb])), NC.oks h4 (fun v hv => h1 v (by simp [hv])) (fun b hb => hO b (by simp [hb]))⟩
theorem NR.row {O : Own} {w : World} {b o e : Nat} : ∀ {xs : List D} {vs : List Value} {bs : List Nat}, NR w e xs vs bs -> (∀ b ∈ bs, ∀ o, ¬ O b o) -> Cells O w b o vs -> D.row O w b o e xs
 | [], _, _ => fun _ _ _ => by simp [D.row]
 | .agg cs :: xs, vs, bs => fun h hO hc => by
  simp only [NR] at h
  obtain ⟨us, r, b1, b2, rfl, hl, rfl, h3, h4⟩ := h
  simp only [D.row]
  have hc1 : Cells O w b o us := fun j v hj => hc j v (by rw [List.getElem?_append_left (List.getElem?_eq_some_iff.1 hj).1]; exact hj)
  have hc2 : Cells O w b (o + e) r := fun j v hj => by
   have := hc (e + j) v (by rw [List.getElem?_append_right (by omega), hl, Nat.add_sub_cancel_left]; exact hj)
   rwa [<- Nat.add_assoc] at this
  exact ⟨⟨us, hl, hc1, NC.oks h3 (fun v hv => by obtain ⟨j, hj⟩ := List.getElem?_of_mem hv; exact (hc1 j v hj).2.2) fun b hb => hO b (by simp [hb])⟩, NR.row h4 (fun b hb => hO b (by simp [hb])) hc2⟩
 | .any :: xs, vs, bs => fun h hO hc => by
  simp only [NR] at h
  obtain ⟨v, r, b1, b2, rfl, rfl, rfl, h3, h4⟩ := h
  exact h3.elim
 | .lit u :: xs, vs, bs => fun h hO hc => by
  have hq := fun v b1 => NV.ok (O := O) (w := w) (x := .lit u) (v := v) (bs := b1)
  simp only [NR] at h
  obtain ⟨v, r, b1, b2, rfl, rfl, rfl, h3, h4⟩ := h
  simp only [D.row]
  refine ⟨⟨v, by trivial, fun j u hj => ?_, hq v b1 h3 (fun b hb => hO b (by simp [hb]))⟩, NR.row h4 (fun b hb => hO b (by simp [hb])) fun j u hj => ?_⟩
  ·cases j with
   | zero => exact hc 0 u (by simpa using hj)
   | succ j => simp at hj
  ·have := hc (1 + j) u (by rw [Nat.add_comm]; simpa using hj)
   rwa [<- Nat.add_assoc] at this
 | .sl e' nl ys :: xs, vs, bs => fun h hO hc => by
  have hq := fun v b1 => NV.ok (O := O) (w := w) (x := .sl e' nl ys) (v := v) (bs := b1)
  simp only [NR] at h
  obtain ⟨v, r, b1, b2, rfl, rfl, rfl, h3, h4⟩ := h
  simp only [D.row]
  refine ⟨⟨v, by trivial, fun j u hj => ?_, hq v b1 h3 (fun b hb => hO b (by simp [hb]))⟩, NR.row h4 (fun b hb => hO b (by simp [hb])) fun j u hj => ?_⟩
  ·cases j with
   | zero => exact hc 0 u (by simpa using hj)
   | succ j => simp at hj
  ·have := hc (1 + j) u (by rw [Nat.add_comm]; simpa using hj)
   rwa [<- Nat.add_assoc] at this
end
mutual
inductive k4p (s : j9) : AV -> D -> Prop
 | le {x : AV} {a : D} (h : AV.le x (.d a)) : k4p s x a
 | gow {e id n : Nat} {xs : List D} (h : q5k s id e xs) (hn : n = xs.length) : k4p s (.gow e id n) (.sl e none xs)
 | agg {xs : List AV} {ds : List D} (h : q8b s xs ds) : k4p s (.agg xs) (.agg ds)
inductive q8b (s : j9) : List AV -> List D -> Prop
 | nil : q8b s [] []
 | cons {x : AV} {a : D} {xs : List AV} {ds : List D} (h : k4p s x a) (hs : q8b s xs ds) : q8b s (x :: xs) (a :: ds)
end
theorem z7i {C : Ctx} {β : x5} {s : j9} {w : World} (h : Inv C β s w) {e id n : Nat} {xs : List D} (hw : q5k s id e xs) (hn : n = xs.length) {v : Value} (hv : AV.ok β (C.forb β s) w (.gow e id n) v) : D.ok C.O w (.sl e none xs) v := by
 subst hn
 obtain ⟨B, h1, h2, h3⟩ := hw.nv h v hv
 refine NV.ok h3 fun b hb o hO => ?_
 have hl := h.low b o hO
 rcases h.ownd b o (k9t hw.1 (h2 b hb).1 o) with h4 | h4
 ·exact hl.2 h4
 ·omega
theorem D.ok_less {O O' : Own} {w : World} (h : ∀ b o, O' b o -> O b o) {x : D} {v : Value} (hx : D.ok O w x v) : D.ok O' w x v := D.ok_mono (fun _ _ _ hc hn => ⟨hc, fun ho => hn (h _ _ ho)⟩) x v hx
mutual
theorem k4p.ok {C : Ctx} {β : x5} {s : j9} {w : World} (h : Inv C β s w) : ∀ {x : AV} {a : D} {v : Value}, k4p s x a -> AV.ok β (C.forb β s) w x v -> D.ok C.O w a v
 | _, _, v, .le hl, hv => by
  have := hl _ _ _ _ hv
  simp only [AV.ok] at this
  exact D.ok_less (fun b o ho => .inl ho) this
 | _, _, v, .gow hw hn, hv => z7i h hw hn hv
 | _, _, v, .agg hl, hv => by
  simp only [AV.ok] at hv
  obtain ⟨vs, rfl, h1, h2⟩ := hv
  simp only [D.ok]
  exact ⟨vs, rfl, q8b.oks h hl h1 h2⟩
theorem q8b.oks {C : Ctx} {β : x5} {s : j9} {w : World} (h : Inv C β s w) : ∀ {xs : List AV} {ds : List D} {vs : List Value}, q8b s xs ds -> (∀ u ∈ vs, one u = true) -> AV.oks β (C.forb β s) w xs vs -> D.oks C.O w ds vs
 | _, _, vs, .nil, _, hv => by simpa [AV.oks, D.oks] using hv
 | _, _, vs, .cons hl hs, h1, hv => by
  simp only [AV.oks] at hv
  obtain ⟨v, r, rfl, h2, h3⟩ := hv
  simp only [D.oks]
  exact ⟨v, r, rfl, h1 v (by simp), k4p.ok h hl h2, q8b.oks h hs (fun u hu => h1 u (by simp [hu])) h3⟩
end
theorem q8b.args {C : Ctx} {β : x5} {s : j9} {w : World} (h : Inv C β s w) : ∀ {xs : List AV} {ds : List D} {vs : List Value}, q8b s xs ds -> AV.oks β (C.forb β s) w xs vs -> ∀ β', AV.oks β' C.O w (ds.map .d) vs
 | _, _, vs, .nil, hv, β' => by simpa [AV.oks] using hv
 | _, _, vs, .cons hl hs, hv, β' => by
  simp only [AV.oks] at hv
  obtain ⟨v, r, rfl, h2, h3⟩ := hv
  simp only [List.map_cons, AV.oks]
  exact ⟨v, r, rfl, by simp only [AV.ok]; exact k4p.ok h hl h2, q8b.args h hs h3 β'⟩
theorem Inv.grown {C : Ctx} {β : x5} {s : j9} {w w' : World} (h : Inv C β s w) (hs : w.heap.size <= w'.heap.size) (hio : wio w' = wio w) (hk : ∀ b, b < w.heap.size -> w'.heap[b]? = w.heap[b]?) : Inv C β s w' :=
 (St.grow (env := []) (a := { tmps := #[], defers := [] }) ⟨.nil, h, rfl, fun i x hx => by simp at hx⟩ hs hio hk).inv
def q3h (C : Ctx) : Ctx := { O := C.O, β := fun _ => .no, s := [], w := C.w, k := 0 }
theorem q3h.inv {C : Ctx} (h : Inv C C.β C.s C.w) : Inv (q3h C) (q3h C).β (q3h C).s (q3h C).w where
 size := Nat.le_refl _
 io := rfl
 keep := fun _ _ _ h _ => h
 blks := fun _ _ _ => rfl
 ownd := fun _ _ h => .inl h
 ownB := fun id _ h => .inl ⟨id, h⟩
 pl := fun _ _ => .refl _
 low := fun b o ho => ⟨(h.low b o ho).1, fun ⟨id, hq⟩ => hq.elim⟩
 obs := fun _ => rfl
 inj := fun _ _ _ h => h.elim
theorem q3h.grown {C : Ctx} (h : Inv C C.β C.s C.w) {β' : x5} {s' : j9} {w' : World} (hi : Inv (q3h C) β' s' w') : Inv C C.β C.s w' :=
 h.grown hi.size hi.io fun b hb => hi.blks b hb fun id hq => hq.elim
theorem q3h.forb {C : Ctx} : (q3h C).forb (q3h C).β (q3h C).s = C.O := by
 funext b o
 refine propext ⟨fun h => h.elim id fun ⟨_, h⟩ => h.elim, .inl⟩
theorem x6.lent {P : Program} {f : Nat} {as : List D} {u : Value} (hc : p7 P f as (.lit u)) {args : List AV} {s : j9} {k : Nat} (hl : q8b s args as) :
 x6 P f args s k fun x s' => x = .d (.lit u) /\ s' = s := fun C vs hs hk hinv hargs => by
 subst hs
 refine (hc (q3h C) vs rfl rfl (q3h.inv hinv) (by rw [q3h.forb]; exact q8b.args hinv hl hargs _)).mono ?_
 rintro e w' ⟨v, x, β', s', rfl, hi, hx, rfl⟩
 refine ⟨v, .d (.lit u), C.β, C.s, rfl, q3h.grown hinv hi, ?_, rfl, rfl⟩
 simp only [AV.ok, D.ok] at hx ⊢
 exact hx
mutual
def z1c : AV -> Bool
 | .d (.lit _) => true
 | .gow _ _ _ => true
 | .agg cs => j2e cs
 | .tup cs => j2e cs
 | _ => false
def j2e : List AV -> Bool
 | [] => true
 | x :: xs => z1c x && j2e xs
end
mutual
theorem j2d {β β' : x5} {O O' : Own} {w w' : World} (hb : ∀ id, β' id = β id ∨ β id = .no) : ∀ {x : AV} {v : Value}, z1c x = true -> AV.ok β O w x v -> AV.ok β' O' w' x v
 | .d (.lit u), v, _, h => by simp only [AV.ok, D.ok] at h ⊢; exact h
 | .gow e id n, v, _, h => by
  simp only [AV.ok] at h ⊢
  obtain ⟨u, m, h1, h2⟩ := h
  refine ⟨u, m, ?_, h2⟩
  rcases hb id with h3 | h3
  ·rw [h3]; exact h1
  ·rw [h3] at h1; exact h1.elim
 | .agg cs, v, hx, h => by
  simp only [AV.ok] at h ⊢
  obtain ⟨vs, h1, h2, h3⟩ := h
  exact ⟨vs, h1, h2, k8p hb (by simpa [z1c] using hx) h3⟩
 | .tup cs, v, hx, h => by
  simp only [AV.ok] at h ⊢
  obtain ⟨vs, h1, h3⟩ := h
  exact ⟨vs, h1, k8p hb (by simpa [z1c] using hx) h3⟩
 | .junk, _, hx, _ => by simp [z1c] at hx
 | .d .any, _, hx, _ => by simp [z1c] at hx
 | .d (.agg _), _, hx, _ => by simp [z1c] at hx
 | .d (.sl _ _ _), _, hx, _ => by simp [z1c] at hx
 | .own _ _ _, _, hx, _ => by simp [z1c] at hx
 | .ptr _ _, _, hx, _ => by simp [z1c] at hx
 | .msl _ _ _ _, _, hx, _ => by simp [z1c] at hx
 | .pv _, _, hx, _ => by simp [z1c] at hx
 | .fn _ _ _, _, hx, _ => by simp [z1c] at hx
 | .gptr _ _ _, _, hx, _ => by simp [z1c] at hx
 | .ful _ _, _, hx, _ => by simp [z1c] at hx
 | .dp _, _, hx, _ => by simp [z1c] at hx
theorem k8p {β β' : x5} {O O' : Own} {w w' : World} (hb : ∀ id, β' id = β id ∨ β id = .no) : ∀ {xs : List AV} {vs : List Value}, j2e xs = true -> AV.oks β O w xs vs -> AV.oks β' O' w' xs vs
 | [], _, _, h => by simpa [AV.oks] using h
 | x :: xs, vs, hx, h => by
  simp only [j2e, Bool.and_eq_true] at hx
  simp only [AV.oks] at h ⊢
  obtain ⟨v, r, h1, h2, h3⟩ := h
  exact ⟨v, r, h1, j2d hb hx.1 h2, k8p hb hx.2 h3⟩
end
def q5m (tl : List (Nat × Nat × List D)) : j9 := tl.map fun p => (p.1, .prv p.2.1 p.2.2.length (j7 p.2.2))
theorem k3z : ∀ {tl : List (Nat × Nat × List D)} {id : Nat}, sat (q5m tl) id = .dead ∨ ∃ e ds, (id, e, ds) ∈ tl /\ sat (q5m tl) id = .prv e ds.length (j7 ds)
 | [], _ => .inl rfl
 | (i, e, ds) :: r, id => by
  simp only [q5m, List.map_cons, sat]
  by_cases h : id = i
  ·subst h
   exact .inr ⟨e, ds, by simp, by simp⟩
  ·rcases k3z (tl := r) (id := id) with h1 | ⟨e', ds', h1, h2⟩
   ·left; rw [if_neg h]; exact h1
   ·right; exact ⟨e', ds', by simp [h1], by rw [if_neg h]; exact h2⟩
theorem k7v {s t : j9} {id : Nat} : sat (s ++ t) id = if id ∈ s.map (·.1) then sat s id else sat t id := by
 induction s with
 | nil => simp
 | cons p r ih =>
  obtain ⟨j, x⟩ := p
  simp only [List.cons_append, sat, List.map_cons, List.mem_cons]
  by_cases h : id = j
  ·simp [h]
  ·simp only [h, if_false, false_or, ih]
theorem j6b {s : j9} {id : Nat} (h : id ∉ s.map (·.1)) : sat s id = .dead := by
 induction s with
 | nil => rfl
 | cons p r ih =>
  obtain ⟨j, x⟩ := p
  simp only [List.map_cons, List.mem_cons, not_or] at h
  simp only [sat, h.1, if_false]
  exact ih h.2
theorem x6.lentO {P : Program} {f : Nat} {as : List D} {y : AV} {tl : List (Nat × Nat × List D)} (hc : x6 P f (as.map .d) [] 0 fun x s' => x = y /\ s' = q5m tl) (hy : z1c y = true)
 {args : List AV} {s : j9} {k : Nat} (hl : q8b s args as) (hd : ∀ p ∈ tl, p.1 ∉ s.map (·.1) /\ k <= p.1) (hcl : ∀ p ∈ tl, ∀ x ∈ p.2.2, ∀ c ∈ z6 x, q3z c = true) :
 x6 P f args s k fun x s' => x = y /\ s' = s ++ q5m tl := fun C vs hs hk hinv hargs => by
 subst hs
 subst hk
 refine (hc (q3h C) vs rfl rfl (q3h.inv hinv) (by rw [q3h.forb]; exact q8b.args hinv hl hargs _)).mono ?_
 rintro e w' ⟨v, x, β', s', rfl, hi, hx, rfl, rfl⟩
 have hg := q3h.grown hinv hi
 let β2 : x5 := fun id => if id ∈ C.s.map (·.1) then C.β id else β' id
 have hdead : ∀ id, id ∈ C.s.map (·.1) -> sat (q5m tl) id = .dead := fun id hid => by
  rcases k3z (tl := tl) (id := id) with h | ⟨e, ds, h1, _⟩
  ·exact h
  ·exact absurd hid (hd _ h1).1
 have hno : ∀ id, id ∉ C.s.map (·.1) -> C.β id = .no := fun id hid => by
  have := hinv.obs id
  rw [j6b hid] at this
  exact this
 have hno' : ∀ id, id ∈ C.s.map (·.1) -> β' id = .no := fun id hid => by
  have := hi.obs id
  rw [hdead id hid] at this
  exact this
 have b1 : ∀ id, id ∈ C.s.map (·.1) -> β2 id = C.β id /\ sat (C.s ++ q5m tl) id = sat C.s id := fun id hid => ⟨by simp only [β2, hid, if_true], by rw [k7v, if_pos hid]⟩
 have b2 : ∀ id, id ∉ C.s.map (·.1) -> β2 id = β' id /\ sat (C.s ++ q5m tl) id = sat (q5m tl) id := fun id hid => ⟨by simp only [β2, hid, if_false], by rw [k7v, if_neg hid]⟩
 have hblk : ∀ id b, q8 β2 (C.s ++ q5m tl) id b -> (id ∈ C.s.map (·.1) /\ q8 C.β C.s id b) ∨ (id ∉ C.s.map (·.1) /\ q8 β' (q5m tl) id b /\ C.w.heap.size <= b) := fun id b hb => by
  by_cases hid : id ∈ C.s.map (·.1)
  ·exact .inl ⟨hid, (q6h (b1 id hid).1 (b1 id hid).2).1 hb⟩
  ·have h1 := (q6h (b2 id hid).1 (b2 id hid).2).1 hb
   rcases hi.ownB id b h1 with ⟨i, h2⟩ | h2
   ·exact h2.elim
   ·exact .inr ⟨hid, h1, h2⟩
 have hown : ∀ b o, own β2 (C.s ++ q5m tl) b o -> own C.β C.s b o ∨ C.w.heap.size <= b := fun b o ⟨id, ho⟩ => by
  by_cases hid : id ∈ C.s.map (·.1)
  ·exact .inl ⟨id, (k1y (b1 id hid).1 (b1 id hid).2).1 ho⟩
  ·have h1 : own β' (q5m tl) b o := ⟨id, (k1y (b2 id hid).1 (b2 id hid).2).1 ho⟩
   rcases hi.ownd b o h1 with ⟨i, h2⟩ | h2
   ·exact h2.elim
   ·exact .inr h2
 refine ⟨v, x, β2, _, rfl, ⟨hg.size, hg.io, hg.keep, hg.blks, fun b o ho => hown b o ho, fun id b hb => ?_, fun id hid => ?_, hg.low, fun id => ?_, fun i j b h1 h2 => ?_⟩, ?_, rfl, rfl⟩
 ·rcases hblk id b hb with ⟨_, h1⟩ | ⟨_, _, h1⟩
  ·exact .inl ⟨id, h1⟩
  ·exact .inr h1
 ·by_cases hm : id ∈ C.s.map (·.1)
  ·rw [(b1 id hm).1]; exact .refl _
  ·rw [hno id hm]; trivial
 ·by_cases hid : id ∈ C.s.map (·.1)
  ·rw [(b1 id hid).2]
   have m : l3q C.β C.s C.w β2 (C.s ++ q5m tl) w' := by
    refine ⟨hg.size, hg.io, fun b o v hcell hn => ?_, fun b hb hn => hi.blks b hb fun id hq => hq.elim, hown, fun id b hb => ?_, fun id => ?_⟩
    ·rw [<- hcell]; exact World.cell?_of_block (hi.blks b (q8e hcell) fun id hq => hq.elim)
    ·rcases hblk id b hb with ⟨_, h1⟩ | ⟨_, _, h1⟩
     ·exact .inl ⟨id, h1⟩
     ·exact .inr h1
    ·by_cases hm : id ∈ C.s.map (·.1)
     ·rw [(b1 id hm).1]; exact .refl _
     ·rw [hno id hm]; trivial
   exact (hinv.obs id).moves (C := C) m (b1 id hid).1 (fun b hb => hi.blks b (hinv.blk_lt hb) fun id hq => hq.elim) rfl
  ·rw [(b2 id hid).2]
   have ho := hi.obs id
   rcases k3z (tl := tl) (id := id) with h | ⟨e, ds, h1, h2⟩
   ·rw [h] at ho ⊢; exact (b2 id hid).1.trans ho
   ·rw [h2] at ho ⊢
    obtain ⟨u, bs, g1, g2, g3⟩ := ho
    refine ⟨u, bs, (b2 id hid).1.trans g1, g2, g3.1, ?_⟩
    rcases g3.2 with g4 | ⟨b, cap, us, t, k1, k2, k3, k4, k5, k6, k7, k8, k9⟩
    ·exact .inl g4
    ·refine .inr ⟨b, cap, us, t, k1, k2, k3, k4, k5, k6, k7, k8, ?_⟩
     have hbare : ∀ (cs : List AV) (us : List Value) (bs : List Nat), NXs β' ((q3h C).forb β' (q5m tl)) w' cs us bs -> (∀ x ∈ cs, (∃ d, x = .dp d) ∨ ∃ u, x = .d (.lit u)) -> NXs β2 (C.forb β2 (C.s ++ q5m tl)) w' cs us bs := fun cs => by
      induction cs with
      | nil => intro us bs h _; simpa [NXs] using h
      | cons x xs ih =>
       intro us bs h h2
       simp only [NXs] at h ⊢
       obtain ⟨v, r, c1, c2, rfl, rfl, h3, h4⟩ := h
       refine ⟨v, r, c1, c2, rfl, rfl, ?_, ih r c2 h4 fun x hx => h2 x (by simp [hx])⟩
       rcases h2 x (by simp) with ⟨d, rfl⟩ | ⟨u, rfl⟩
       ·exact h3
       ·obtain ⟨h5, h6⟩ := h3
        have h5 : AV.ok β' ((q3h C).forb β' (q5m tl)) w' (.d (.lit u)) v := h5
        refine ⟨?_, h6⟩
        show AV.ok β2 (C.forb β2 (C.s ++ q5m tl)) w' (.d (.lit u)) v
        simp only [AV.ok, D.ok] at h5 ⊢
        exact h5
     refine hbare _ _ _ k9 fun x hx => ?_
     simp only [j7, List.mem_map, List.mem_flatMap] at hx
     obtain ⟨c, ⟨q, hq, hc⟩, rfl⟩ := hx
     have := hcl _ h1 q hq c hc
     cases c with
     | lit u => exact .inr ⟨u, rfl⟩
     | sl e nl xs => exact .inl ⟨_, rfl⟩
     | any => cases this
     | agg _ => cases this
 ·rcases hblk i b h1 with ⟨i1, i2⟩ | ⟨i1, i2, i3⟩ <;> rcases hblk j b h2 with ⟨j1, j2⟩ | ⟨j1, j2, j3⟩
  ·exact hinv.inj i j b i2 j2
  ·have := hinv.blk_lt i2; omega
  ·have := hinv.blk_lt j2; omega
  ·exact hi.inj i j b i2 j2
 ·refine j2d (fun id => ?_) hy hx
  by_cases hm : id ∈ C.s.map (·.1)
  ·exact .inr (hno' id hm)
  ·exact .inl (b2 id hm).1
mutual
def l8q : AV -> List (Nat × Nat × List D)
 | .own e id ds => [(id, e, ds)]
 | .agg cs => q4g cs
 | .tup cs => q4g cs
 | _ => []
def q4g : List AV -> List (Nat × Nat × List D)
 | [] => []
 | x :: xs => l8q x ++ q4g xs
end
mutual
def cnv : AV -> AV
 | .own e id ds => .gow e id ds.length
 | .agg cs => .agg (x7c cs)
 | .tup cs => .tup (x7c cs)
 | .d (.lit u) => .d (.lit u)
 | _ => .junk
def x7c : List AV -> List AV
 | [] => []
 | x :: xs => cnv x :: x7c xs
end
mutual
theorem z8g {β : x5} {O : Own} {w : World} : ∀ {x : AV} {v : Value}, AV.ok β O w x v -> ∀ p ∈ l8q x, ∃ u, AV.ok β O w (.own p.2.1 p.1 p.2.2) u
 | .own e id ds, v, h, p, hp => by
  simp only [l8q, List.mem_singleton] at hp
  subst hp
  exact ⟨v, h⟩
 | .agg cs, v, h, p, hp => by
  simp only [AV.ok] at h
  obtain ⟨vs, rfl, _, h⟩ := h
  exact k6k h p (by simpa [l8q] using hp)
 | .tup cs, v, h, p, hp => by
  simp only [AV.ok] at h
  obtain ⟨vs, rfl, h⟩ := h
  exact k6k h p (by simpa [l8q] using hp)
 | .junk, _, _, p, hp => by simp [l8q] at hp
 | .d _, _, _, p, hp => by simp [l8q] at hp
 | .ptr _ _, _, _, p, hp => by simp [l8q] at hp
 | .msl _ _ _ _, _, _, p, hp => by simp [l8q] at hp
 | .pv _, _, _, p, hp => by simp [l8q] at hp
 | .fn _ _ _, _, _, p, hp => by simp [l8q] at hp
 | .gow _ _ _, _, _, p, hp => by simp [l8q] at hp
 | .gptr _ _ _, _, _, p, hp => by simp [l8q] at hp
 | .ful _ _, _, _, p, hp => by simp [l8q] at hp
 | .dp _, _, _, p, hp => by simp [l8q] at hp
theorem k6k {β : x5} {O : Own} {w : World} : ∀ {xs : List AV} {vs : List Value}, AV.oks β O w xs vs -> ∀ p ∈ q4g xs, ∃ u, AV.ok β O w (.own p.2.1 p.1 p.2.2) u
 | [], _, _, p, hp => by simp [q4g] at hp
 | x :: xs, vs, h, p, hp => by
  simp only [AV.oks] at h
  obtain ⟨v, r, rfl, h1, h2⟩ := h
  simp only [q4g, List.mem_append] at hp
  rcases hp with hp | hp
  ·exact z8g h1 p hp
  ·exact k6k h2 p hp
end
mutual
theorem x4l {β β' : x5} {O O' : Own} {w : World} {tl : List (Nat × Nat × List D)} (hb : ∀ e id ds v, (id, e, ds) ∈ tl -> AV.ok β O w (.own e id ds) v -> AV.ok β' O' w (.gow e id ds.length) v) :
 ∀ {x : AV} {v : Value}, (∀ p ∈ l8q x, p ∈ tl) -> AV.ok β O w x v -> AV.ok β' O' w (cnv x) v
 | .own e id ds, v, hp, h => hb e id ds v (hp _ (by simp [l8q])) h
 | .agg cs, v, hp, h => by
  simp only [cnv, AV.ok] at h ⊢
  obtain ⟨vs, rfl, h1, h⟩ := h
  exact ⟨vs, rfl, h1, z4j hb (by simpa [l8q] using hp) h⟩
 | .tup cs, v, hp, h => by
  simp only [cnv, AV.ok] at h ⊢
  obtain ⟨vs, rfl, h⟩ := h
  exact ⟨vs, rfl, z4j hb (by simpa [l8q] using hp) h⟩
 | .d (.lit u), v, _, h => by simp only [cnv, AV.ok, D.ok] at h ⊢; exact h
 | .d .any, _, _, _ => by simp [cnv, AV.ok]
 | .d (.agg _), _, _, _ => by simp [cnv, AV.ok]
 | .d (.sl _ _ _), _, _, _ => by simp [cnv, AV.ok]
 | .junk, _, _, _ => by simp [cnv, AV.ok]
 | .ptr _ _, _, _, _ => by simp [cnv, AV.ok]
 | .msl _ _ _ _, _, _, _ => by simp [cnv, AV.ok]
 | .pv _, _, _, _ => by simp [cnv, AV.ok]
 | .fn _ _ _, _, _, _ => by simp [cnv, AV.ok]
 | .gow _ _ _, _, _, _ => by simp [cnv, AV.ok]
 | .gptr _ _ _, _, _, _ => by simp [cnv, AV.ok]
 | .ful _ _, _, _, _ => by simp [cnv, AV.ok]
 | .dp _, _, _, _ => by simp [cnv, AV.ok]
theorem z4j {β β' : x5} {O O' : Own} {w : World} {tl : List (Nat × Nat × List D)} (hb : ∀ e id ds v, (id, e, ds) ∈ tl -> AV.ok β O w (.own e id ds) v -> AV.ok β' O' w (.gow e id ds.length) v) :
 ∀ {xs : List AV} {vs : List Value}, (∀ p ∈ q4g xs, p ∈ tl) -> AV.oks β O w xs vs -> AV.oks β' O' w (x7c xs) vs
 | [], _, _, h => by simpa [x7c, AV.oks] using h
 | x :: xs, vs, hp, h => by
  simp only [x7c, AV.oks] at h ⊢
  obtain ⟨v, r, rfl, h1, h2⟩ := h
  exact ⟨v, r, rfl, x4l hb (fun p hq => hp p (by simp [q4g, hq])) h1, z4j hb (fun p hq => hp p (by simp [q4g, hq])) h2⟩
end
theorem q6f.len {C : Ctx} {β : x5} {s : j9} {w : World} (h : Inv C β s w) {id e : Nat} {ds : List D} (hw : q6f s id e ds) : ∃ u, (β id).at u ds.length /\ ∀ v m, (β id).at v m -> v = u /\ m = ds.length := by
 have ho := h.obs id
 rcases hw with ⟨t, rfl, h1, _⟩ | ⟨t, h1, _, _⟩
 ·rw [h1] at ho
  obtain ⟨u, hb, _⟩ := ho
  rw [hb]
  exact ⟨u, ⟨rfl, rfl⟩, fun v m hv => ⟨hv.1.symm, hv.2.symm⟩⟩
 ·rw [h1] at ho
  obtain ⟨u, bs, hb, _⟩ := ho
  rw [hb]
  exact ⟨u, ⟨rfl, rfl⟩, fun v m hv => ⟨hv.1.symm, hv.2.symm⟩⟩
theorem q6f.cond {s : j9} {id e : Nat} {ds : List D} (hw : q6f s id e ds) : (∀ x ∈ ds, (z6 x).length = e) /\ ∀ x ∈ ds, ∀ c ∈ z6 x, q3z c = true := by
 rcases hw with ⟨t, rfl, h1, h2⟩ | ⟨t, h1, h2, h3⟩
 ·refine ⟨fun x hx => ?_, fun x hx c hc => ?_⟩
  ·have := h2 x hx
   cases x with
   | lit u => rfl
   | _ => cases this
  ·have := h2 x hx
   cases x with
   | lit u => simp only [z6, List.mem_singleton] at hc; subst hc; rfl
   | _ => cases this
 ·exact ⟨h2, h3⟩
theorem k6h : ∀ {tl : List (Nat × Nat × List D)} {id e : Nat} {ds : List D}, (id, e, ds) ∈ tl -> sat (q5m tl) id ≠ .dead
 | [], _, _, _, h => by simp at h
 | (i, e', ds') :: r, id, e, ds, hm => by
  simp only [q5m, List.map_cons, sat]
  by_cases hq : id = i
  ·rw [if_pos hq]; exact fun h => nomatch h
  ·rw [if_neg hq]
   refine k6h (tl := r) (e := e) (ds := ds) ?_
   rcases List.mem_cons.1 hm with h | h
   ·simp only [Prod.mk.injEq] at h; exact absurd h.1 hq
   ·exact h
theorem x6.prv {P : Program} {f : Nat} {args : List AV} {y : AV} {t : j9} (hc : x6 P f args [] 0 fun x s' => x = y /\ s' = t)
 (hw : ∀ p ∈ l8q y, q6f t p.1 p.2.1 p.2.2) {y' : AV} {t' : j9} (hy : cnv y = y') (ht : q5m (l8q y) = t') :
 x6 P f args [] 0 fun x s' => x = y' /\ s' = t' := fun C vs hs hk hinv hargs => by
 subst hy
 subst ht
 refine (hc C vs hs hk hinv hargs).mono ?_
 rintro e w' ⟨v, x, β', s', rfl, hi, hx, rfl, rfl⟩
 have hno : ∀ i b, ¬ q8 C.β C.s i b := fun i b h => by unfold q8 at h; rw [hs] at h; exact h
 have hsat := fun id e ds => k6h (tl := l8q x) (id := id) (e := e) (ds := ds)
 obtain ⟨β2, hβ2⟩ := Classical.axiomOfChoice (r := fun (id : Nat) (pl : w4q) => (sat (q5m (l8q x)) id = .dead /\ pl = .no) ∨ ∃ e ds u B', (id, e, ds) ∈ l8q x /\ sat (q5m (l8q x)) id = .prv e ds.length (j7 ds) /\
  pl = .nst u ds.length B' /\ (β' id).at u ds.length /\ (∀ q : Nat, ((∃ cap, u = .slice (some ⟨q, 0, none⟩) ds.length cap /\ 0 < cap) ∨ q ∈ B') -> q8 β' s' id q) /\
  (∀ b ∈ B', ∃ vs t', w'.heap[b]? = some (.cells vs t' (0, 0))) /\ (∀ β F, k8k β F w' e ds.length u B' (j7 ds)) /\
  ((∃ a, u = .slice a 0 0 /\ ds.length = 0) ∨ ∃ b cap, u = .slice (some ⟨b, 0, none⟩) ds.length cap /\ ds.length <= cap /\ cap < 2 ^ 63)) (fun id => by
  rcases k3z (tl := l8q x) (id := id) with h | ⟨e, ds, h1, h2⟩
  ·exact ⟨.no, .inl ⟨h, rfl⟩⟩
  ·obtain ⟨u, hu⟩ := z8g hx _ h1
   have hW := hw _ h1
   obtain ⟨B, g1, g2, g3⟩ := hW.nv hi u hu
   obtain ⟨B', k1, ⟨k2, k3⟩, k4⟩ := j5v g3 g1 (fun b hb => (g2 b hb).2) hW.cond.1 hW.cond.2
   obtain ⟨u', l1, l2⟩ := hW.len hi
   have huu : u = u' := by
    simp only [AV.ok] at hu
    obtain ⟨_, p, n, m1, m2, m3⟩ := hu
    obtain ⟨rfl, rfl⟩ := l2 _ _ m1
    exact m3 rfl
   subst huu
   exact ⟨_, .inr ⟨e, ds, u, B', h1, h2, rfl, l1, fun q hq => (g2 q (k1 q hq)).1, k2, k3, k4⟩⟩)
 have hblk : ∀ id b, q8 β2 (q5m (l8q x)) id b -> q8 β' s' id b := fun id b hb => by
  rcases hβ2 id with ⟨h1, _⟩ | ⟨e, ds, u, B', h1, h2, h3, h4, h5, _⟩
  ·unfold q8 at hb; rw [h1] at hb; exact hb.elim
  ·unfold q8 at hb
   rw [h2] at hb
   obtain ⟨v', bs, e1, e2⟩ := hb
   rw [h3] at e1
   cases e1
   exact h5 b e2
 have hown : ∀ b o, own β2 (q5m (l8q x)) b o -> ∃ id, q8 β' s' id b := fun b o ho => let ⟨id, h⟩ := ho.block; ⟨id, hblk id b h⟩
 refine ⟨v, cnv x, β2, _, rfl, ⟨hi.size, hi.io, hi.keep, hi.blks, fun b o ho => ?_, fun id b hb => hi.ownB id b (hblk id b hb), fun id hid => ?_, hi.low, fun id => ?_, fun i j b h1 h2 => hi.inj i j b (hblk i b h1) (hblk j b h2)⟩,
  x4l (tl := l8q x) (fun e id ds v hm hv => ?_) (fun p hp => hp) hx, rfl, rfl⟩
 ·obtain ⟨id, h⟩ := hown b o ho
  rcases hi.ownB id b h with ⟨i, h2⟩ | h2
  ·exact absurd h2 (hno i b)
  ·exact .inr h2
 ·omega
 ·rcases hβ2 id with ⟨h1, h2⟩ | ⟨e, ds, u, B', h1, h2, h3, h4, h5, h6, h7, _⟩
  ·rw [h1]; exact h2
  ·rw [h2]; exact ⟨u, B', h3, h6, h7 _ _⟩
 ·rcases hβ2 id with ⟨h1, _⟩ | ⟨e2, ds2, u, B', h1, h2, h3, h4, h5, h6, h7, h8⟩
  ·exact absurd h1 (hsat id e ds hm)
  ·have hW := hw _ hm
   obtain ⟨u', l1, l2⟩ := hW.len hi
   obtain ⟨rfl, hlen⟩ := l2 _ _ h4
   simp only [AV.ok] at hv ⊢
   obtain ⟨_, p, n, m1, m2, m3⟩ := hv
   obtain ⟨rfl, rfl⟩ := l2 _ _ m1
   obtain rfl := m3 rfl
   exact ⟨v, ds2.length, by rw [h3]; exact ⟨rfl, rfl⟩, by omega, fun _ => rfl, by rw [<- hlen]; exact h8⟩
class x3h {α : Type} (f : α -> D) : Prop where
 lit : ∀ x, x7v (f x) = true
class Cl {α : Type} (f : α -> D) : Prop where
 cl : ∀ x, ∀ c ∈ z6 (f x), q3z c = true
instance : x3h iD := ⟨fun _ => rfl⟩
instance : x3h bD := ⟨fun _ => rfl⟩
instance : x3h sD := ⟨fun _ => rfl⟩
instance {k : IntKind} : x3h (kD k) := ⟨fun _ => rfl⟩
instance : Cl iD := ⟨fun _ c h => by simp only [iD, z6, List.mem_singleton] at h; subst h; rfl⟩
instance : Cl bD := ⟨fun _ c h => by simp only [bD, z6, List.mem_singleton] at h; subst h; rfl⟩
instance : Cl sD := ⟨fun _ c h => by simp only [sD, z6, List.mem_singleton] at h; subst h; rfl⟩
instance {k : IntKind} : Cl (kD k) := ⟨fun _ c h => by simp only [kD, z6, List.mem_singleton] at h; subst h; rfl⟩
instance {α : Type} {e : Nat} {f : α -> D} : Cl (z7 e f) := ⟨fun _ c h => by simp only [z7, z6, List.mem_singleton] at h; subst h; rfl⟩
theorem Cl.agg {α : Type} {f : α -> D} (g : α -> List D) (hf : ∀ x, f x = .agg (g x)) (h : ∀ x, (g x).all q3z = true) : Cl f := ⟨fun x c hc => by
 rw [hf] at hc
 exact List.all_eq_true.1 (h x) c hc⟩
section
variable {α : Type} {f : α -> D} {e n id : Nat} {s : j9} {xs ys : List α}
theorem i2q [Cel f e] [Cl f] : (∀ x ∈ xs.map f, (z6 x).length = e) /\ ∀ x ∈ xs.map f, ∀ c ∈ z6 x, q3z c = true :=
 ⟨fun x hx => by obtain ⟨y, _, rfl⟩ := List.mem_map.1 hx; exact Cel.len y, fun x hx => by obtain ⟨y, _, rfl⟩ := List.mem_map.1 hx; exact Cl.cl y⟩
theorem q5k.of [Cel f e] [Cl f] (h : sat s id = .prv e n (j7 (xs.map f))) (hn : n = xs.length) : q5k s id e (xs.map f) :=
 ⟨by rw [h, hn, List.length_map], i2q.1, i2q.2⟩
theorem q6f.flat {t : Nat} [x3h f] (h : sat s id = .tok t 1 n) (hn : n = xs.length) : q6f s id 1 (xs.map f) :=
 .inl ⟨t, rfl, by rw [h, hn, List.length_map], fun x hx => by obtain ⟨y, _, rfl⟩ := List.mem_map.1 hx; exact x3h.lit y⟩
theorem q6f.deep {t : Nat} [Cel f e] [Cl f] (h : sat s id = .nst t e n (j7 (xs.map f))) (hn : n = xs.length) : q6f s id e (xs.map f) :=
 .inr ⟨t, by rw [h, hn, List.length_map], i2q.1, i2q.2⟩
theorem k4p.tok [Cel f e] [Cl f] (h : sat s id = .prv e n (j7 (xs.map f))) (hn : n = xs.length) : k4p s (.gow e id n) (z7 e f xs) :=
 .gow (q5k.of h hn) (by rw [hn, List.length_map])
theorem k2g (f : α -> D) (xs : List α) : j7 (xs.map f) = (q0o f xs).map q5r := rfl
theorem k4b [Cel f e] : (j7 (xs.map f)).length = xs.length * e := by rw [k2g, List.length_map, k9e]
theorem z7d {i e k m : Nat} (hi : i < m) (hk : k < e) : i * e + k < m * e :=
 Nat.lt_of_lt_of_le (Nat.add_lt_add_left hk _) (by rw [<- Nat.succ_mul]; exact Nat.mul_le_mul_right _ hi)
variable [Inhabited α] {i k : Nat}
theorem x9p [Cel f e] (hi : i < xs.length) (hk : k < e) : (j7 (xs.map f))[i * e + k]? = some (q5r ((z6 (f (xs.getD i default))).getD k .any)) := by
 have h1 := j4f (f := f) (e := e) (d := .any) hi hk
 have hlt : i * e + k < (q0o f xs).length := by rw [k9e]; exact z7d hi hk
 rw [k2g, List.getElem?_map, List.getElem?_eq_getElem hlt, <- h1, lgd, List.getElem?_eq_getElem hlt]
 rfl
theorem j6l [Cel f e] {d : D} {y : α} (hi : i < xs.length) (hk : k < e) (h : (z6 (f (xs.getD i default))).set k d = z6 (f y)) :
 (j7 (xs.map f)).set (i * e + k) (q5r d) = j7 ((xs.set i y).map f) := by
 rw [k2g, k2g, <- List.map_set]
 congr 1
 have h1 := k5o Cel.len xs i 0 hi (Nat.zero_le e) (f := f)
 have h2 := q9z Cel.len xs i e hi (Nat.le_refl e) (f := f)
 have hy := Cel.len (f := f) (e := e) y
 have hx := Cel.len (f := f) (e := e) (xs.getD i default)
 have hsplit : q0o f xs = q0o f (xs.take i) ++ (z6 (f (xs.getD i default)) ++ q0o f (xs.drop (i + 1))) := by
  conv => lhs; rw [<- List.take_append_drop i xs]
  rw [q2m, List.drop_eq_getElem_cons hi, f7q, lgd, List.getElem?_eq_getElem hi]
  rfl
 have hl : (q0o f (xs.take i)).length = i * e := by rw [k9e, List.length_take, Nat.min_eq_left (by omega)]
 rw [hsplit, List.set_append, if_neg (by omega), hl, Nat.add_sub_cancel_left, List.set_append, if_pos (by omega), h, List.set_eq_take_append_cons_drop, if_pos hi, q2m, f7q]
end
theorem x2b {α : Type} {l : List α} {j : Nat} {x : α} (h : j < l.length) : l.take j ++ [x] ++ l.drop (j + 1) = l.set j x := by
 rw [List.set_eq_take_append_cons_drop, if_pos h, laa]; rfl
theorem y0.prvE {k : Nat} {env : List AV} {s : j9} (id : Nat) {e n : Nat} {cs : List AV} (cs' : List AV) (hs : sat s id = .prv e n cs) (h : cs = cs') : y0 k env s env (j8 s id (.prv e n cs')) := fun C β a w hC hst => by
 subst h
 have : (sat (j8 s id (.prv e n cs))) = sat s := by funext i; rw [u5]; split <;> simp_all
 exact ⟨β, hst.defers, (hst.inv.told fun i => by rw [this]; exact k7b.refl _).1, hst.len, fun i x hx => by
  rw [(hst.inv.told (s' := j8 s id (.prv e n cs)) fun i => by rw [this]; exact k7b.refl _).2]
  exact hst.env i x hx⟩
theorem y0.prvLe {k : Nat} {env : List AV} {s : j9} (id : Nat) {e n : Nat} {cs : List AV} (cs' : List AV) (hs : sat s id = .prv e n cs) (h : k1i cs cs') : y0 k env s env (j8 s id (.prv e n cs')) := fun C β a w hC hst => by
 have hq : ∀ i, k7b (sat s i) (sat (j8 s id (.prv e n cs')) i) := fun i => by
  rw [u5]
  by_cases hi : i = id
  ·subst hi; rw [if_pos rfl, hs]; exact ⟨rfl, rfl, h⟩
  ·rw [if_neg hi]; exact k7b.refl _
 obtain ⟨h1, h2⟩ := hst.inv.told hq
 exact ⟨β, hst.defers, h1, hst.len, fun i x hx => by rw [h2]; exact hst.env i x hx⟩
theorem y0.nstE {k : Nat} {env : List AV} {s : j9} (id : Nat) {t e n : Nat} {cs : List AV} (cs' : List AV) (hs : sat s id = .nst t e n cs) (h : cs = cs') : y0 k env s env (j8 s id (.nst t e n cs')) := fun C β a w hC hst => by
 subst h
 have : (sat (j8 s id (.nst t e n cs))) = sat s := by funext i; rw [u5]; split <;> simp_all
 exact ⟨β, hst.defers, (hst.inv.told fun i => by rw [this]; exact k7b.refl _).1, hst.len, fun i x hx => by
  rw [(hst.inv.told (s' := j8 s id (.nst t e n cs)) fun i => by rw [this]; exact k7b.refl _).2]
  exact hst.env i x hx⟩
theorem x9.of_weak {k : Nat} {x y : AV} {s t : j9} (h : y0 k [x] s [y] t) : x9 k x s y t := fun C β w v hC hi hx => by
 obtain ⟨β', h1⟩ := h C β { tmps := #[v], defers := [] } w hC ⟨.nil, hi, rfl, fun i z hz => by
  cases i with
  | zero => simp at hz; subst hz; simpa using hx
  | succ i => simp at hz⟩
 exact ⟨β', h1.inv, by simpa using h1.env 0 y rfl⟩
theorem k1i.append {xs ys us vs : List AV} (h1 : k1i xs ys) (h2 : k1i us vs) : k1i (xs ++ us) (ys ++ vs) := by
 induction xs generalizing ys with
 | nil => cases ys with
  | nil => exact h2
  | cons _ _ => exact h1.elim
 | cons x xs ih => cases ys with
  | nil => exact h1.elim
  | cons y ys => exact ⟨h1.1, ih h1.2⟩
theorem k1i.rep {z : List AV} {d : D} (h : k1i z ((z6 d).map q5r)) : ∀ n : Nat, k1i ((List.replicate n z).flatten) (j7 (List.replicate n d))
 | 0 => trivial
 | n + 1 => by rw [List.replicate_succ, List.replicate_succ, List.flatten_cons, q7i]; exact h.append (k1i.rep h n)
theorem NLe.nilz {e0 e : Nat} : NLe (.d (.sl e0 (some true) [])) (.dp (.sl e none [])) := .inr (.inr ⟨e0, e, rfl, rfl⟩)
attribute [go_sem] r5q k0i
attribute [go_sem] m8
theorem mf {P : Program} {f : Nat} {mc : j5} {n : Nat} {rs : List k6n} {fn : Func} (h1 : P.funcs[f]? = some fn) (h3 : fn.ntmps = n) (h2 : fn.body.bind (q5t P) = some mc.erase := by kernel_rfl)
 (h4 : fn.results.toList.mapM (k1v P) = some rs := by kernel_rfl) : t6 P f mc n rs := ⟨fn, h1, h2, h3, h4⟩
end Abx
