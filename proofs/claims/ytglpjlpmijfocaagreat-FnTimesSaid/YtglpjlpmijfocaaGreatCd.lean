/- The layer of data and running functions, and its rules; Contracts of the library, laid at this program, and closed facts of it; The law lifted to the statement; Functions of the program and the equations that they compute; nothing is assumed. -/
import Derived.Test.YtglpjlpmijfocaaGreatCc
import Derived.KernelRfl
import Derived.Shelf.Spec.SlicesGrow
import Derived.Test.YtglpjlpmijfocaaGreatProg
import Derived.Shelf.Strings.Builder1
import Derived.Shelf.Small.Bits
import Derived.Shelf.Strings.BuilderF
import Derived.Shelf.Strings.BuilderK
import Derived.Shelf.Strconv.Itoa0
import Derived.Ground.SlgnProg
import Derived.Shelf.SlicesE.Clone
import Derived.Ground.SlsfProg
import Derived.Shelf.SlSortCmp.Insertion
import Derived.Shelf.SlSortCmp.SiftDown1
import Derived.Shelf.SlSortCmp.HeapSort1
import Derived.Shelf.SlSortCmp.Insertion1
import Derived.Shelf.SlSortCmp.Median1
import Derived.Shelf.SlSortCmp.Pivot1
import Derived.Shelf.SlSortCmp.ReverseRange1
import Derived.Shelf.SlSortCmp.PartialInsertion1
import Derived.Shelf.SlSortCmp.PartitionEqual1
import Derived.Shelf.SlSortCmp.Partition1
import Derived.Shelf.SlSortCmp.Pdq1
import Derived.Shelf.SlSortCmp.Whole1
import Derived.Shelf.SlSortCmp.NoneTotal
import Derived.ProofKit
import Derived.OpenShut
import Derived.Below
set_option linter.all false
noncomputable section
namespace Abx
open Go
def DL (x y : D) : Prop := ∀ O w v, D.ok O w x v -> D.ok O w y v
def CLe : List D -> List D -> Prop
 | [], [] => True
 | x :: xs, y :: ys => DL x y /\ CLe xs ys
 | _, _ => False
theorem DL.refl (x : D) : DL x x := fun _ _ _ h => h
theorem DL.forget {e : Nat} {nl : Option Bool} {xs : List D} : DL (.sl e nl xs) (.sl e none xs) := fun _ _ _ h => by
 simp only [D.ok] at h ⊢
 obtain ⟨a, cap, h1, h2, _, h4⟩ := h
 exact ⟨a, cap, h1, h2, trivial, h4⟩
theorem DL.nil {e e' : Nat} {nl : Option Bool} : DL (.sl e nl []) (.sl e' none []) := fun _ _ _ h => by
 simp only [D.ok] at h ⊢
 obtain ⟨a, cap, h1, h2, _, h4⟩ := h
 exact ⟨a, cap, h1, h2, trivial, by simp⟩
theorem CLe.oks {O : Own} {w : World} : ∀ {xs ys : List D} {vs : List Value}, CLe xs ys -> D.oks O w xs vs -> D.oks O w ys vs
 | [], [], _, _, h => h
 | _ :: _, _ :: _, _, hl, h => by
  simp only [D.oks] at h ⊢
  obtain ⟨v, r, h1, h2, h3, h4⟩ := h
  exact ⟨v, r, h1, h2, hl.1 _ _ _ h3, CLe.oks hl.2 h4⟩
 | [], _ :: _, _, hl, _ => hl.elim
 | _ :: _, [], _, hl, _ => hl.elim
theorem DL.agg {xs ys : List D} (h : CLe xs ys) : DL (.agg xs) (.agg ys) := fun _ _ _ hv => by
 simp only [D.ok] at hv ⊢
 obtain ⟨vs, h1, h2⟩ := hv
 exact ⟨vs, h1, h.oks h2⟩
theorem AV.le_d {x y : D} (h : DL x y) : AV.le (.d x) (.d y) := fun _ _ _ _ hv => by simp only [AV.ok] at hv ⊢; exact h _ _ _ hv
theorem AV.le_ownD {e id : Nat} {xs : List D} {y : D} (h : DL (.sl e none xs) y) : AV.le (.own e id xs) (.d y) := fun _ _ _ _ hv => by
 simp only [AV.ok] at hv ⊢; exact h _ _ _ hv.1
theorem AV.le_agg {xs ys : List AV} (h : EnvLe xs ys) : AV.le (.agg xs) (.agg ys) := fun _ _ _ _ hv => by
 simp only [AV.ok] at hv ⊢
 obtain ⟨vs, h1, h2, h3⟩ := hv
 exact ⟨vs, h1, h2, h.oks h3⟩
theorem oks_oneD {β : Beta} {O : Own} {w : World} : ∀ {ys : List D} {vs : List Value}, (∀ u ∈ vs, one u = true) -> AV.oks β O w (ys.map .d) vs -> D.oks O w ys vs
 | [], _, _, h => by simpa [AV.oks, D.oks] using h
 | y :: ys, vs, h1, h => by
  simp only [List.map_cons, AV.oks, D.oks] at h ⊢
  obtain ⟨v, r, rfl, h2, h3⟩ := h
  exact ⟨v, r, rfl, h1 v (by simp), by simpa [AV.ok] using h2, oks_oneD (fun u hu => h1 u (by simp [hu])) h3⟩
theorem AV.le_aggD {xs : List AV} {ys : List D} (h : EnvLe xs (ys.map .d)) : AV.le (.agg xs) (.d (.agg ys)) := fun _ _ _ _ hv => by
 simp only [AV.ok, D.ok] at hv ⊢
 obtain ⟨vs, h1, h2, h3⟩ := hv
 exact ⟨vs, h1, oks_oneD h2 (h.oks h3)⟩
theorem AV.le_tup {xs ys : List AV} (h : EnvLe xs ys) : AV.le (.tup xs) (.tup ys) := fun _ _ _ _ hv => by
 simp only [AV.ok] at hv ⊢
 obtain ⟨vs, h1, h3⟩ := hv
 exact ⟨vs, h1, h.oks h3⟩
theorem le_nil_iff {e e' : Nat} {nl : Option Bool} : AV.le (.d (.sl e nl [])) (.d (.sl e' none [])) ↔ True := ⟨fun _ => trivial, fun _ => AV.le_d DL.nil⟩
theorem DL_refl_iff (x : D) : DL x x ↔ True := ⟨fun _ => trivial, fun _ => DL.refl x⟩
theorem DL_nil_iff {e e' : Nat} {nl : Option Bool} : DL (.sl e nl []) (.sl e' none []) ↔ True := ⟨fun _ => trivial, fun _ => DL.nil⟩
theorem le_aggD_t {xs : List AV} {ys : List D} (h : EnvLe xs (ys.map .d)) : AV.le (.agg xs) (.d (.agg ys)) ↔ True := ⟨fun _ => trivial, fun _ => AV.le_aggD h⟩
theorem le_tup_t {xs ys : List AV} (h : EnvLe xs ys) : AV.le (.tup xs) (.tup ys) ↔ True := ⟨fun _ => trivial, fun _ => AV.le_tup h⟩
def NLe (x y : AV) : Prop := x = y ∨ ((∀ d, x ≠ .dp d) /\ (∀ d, y ≠ .dp d) /\ AV.le x y) ∨ ∃ e0 e, x = .d (.sl e0 (some true) []) /\ y = .dp (.sl e none [])
def NsLe : List AV -> List AV -> Prop
 | [], [] => True
 | x :: xs, y :: ys => NLe x y /\ NsLe xs ys
 | _, _ => False
theorem NsLe.refl : ∀ xs : List AV, NsLe xs xs
 | [] => trivial
 | x :: xs => ⟨.inl rfl, NsLe.refl xs⟩
theorem NsLe.length : ∀ {xs ys : List AV}, NsLe xs ys -> xs.length = ys.length
 | [], [] => fun _ => rfl
 | x :: xs, y :: ys => fun h => by simp [NsLe.length h.2]
 | [], _ :: _ => fun h => h.elim
 | _ :: _, [] => fun h => h.elim
theorem NLe.nx {β : Beta} {O : Own} {w : World} {x y : AV} {v : Value} {bs : List Nat} (h : NLe x y) (hx : NX β O w x v bs) : NX β O w y v bs := by
 rcases h with rfl | ⟨h1, h2, h3⟩ | ⟨e0, e, rfl, rfl⟩
 ·exact hx
 ·exact hx.imp (x' := y) (fun _ _ => rfl) (.inr ⟨h1, h2, h3 _ _ _ _⟩)
 ·obtain ⟨h1, h2⟩ := hx
  have h1 : AV.ok β O w (.d (.sl e0 (some true) [])) v := h1
  simp only [AV.ok, D.ok] at h1
  obtain ⟨a, cap, h3, h4, ⟨rfl, rfl⟩, _⟩ := h1
  show NV w (.sl e none []) v bs
  simp only [NV]
  exact ⟨none, 0, h3, h4, trivial, .inl ⟨rfl, trivial, h2⟩⟩
theorem NsLe.nxs {β : Beta} {O : Own} {w : World} : ∀ {xs ys : List AV} {vs : List Value} {bs : List Nat}, NsLe xs ys -> NXs β O w xs vs bs -> NXs β O w ys vs bs
 | [], [] => fun _ h => h
 | x :: xs, y :: ys => fun hl h => by
  simp only [NXs] at h ⊢
  obtain ⟨v, r, b1, b2, h1, h2, h3, h4⟩ := h
  exact ⟨v, r, b1, b2, h1, h2, hl.1.nx h3, NsLe.nxs hl.2 h4⟩
 | [], _ :: _ => fun h => h.elim
 | _ :: _, [] => fun h => h.elim
def MLe : List (Lit × D) -> List (Lit × D) -> Prop
 | [], [] => True
 | (k, x) :: r, (k', y) :: r' => k = k' /\ AV.le (.d x) (.d y) /\ MLe r r'
 | _, _ => False
theorem MLe.refl : ∀ es : List (Lit × D), MLe es es
 | [] => trivial
 | (_, _) :: r => ⟨rfl, fun _ _ _ _ h => h, MLe.refl r⟩
theorem MLe.get {kl : Lit} : ∀ {es es' : List (Lit × D)}, MLe es es' -> (mget es kl = none /\ mget es' kl = none) ∨ ∃ x y, mget es kl = some x /\ mget es' kl = some y /\ AV.le (.d x) (.d y)
 | [], [], _ => .inl ⟨rfl, rfl⟩
 | (k, x) :: r, (k', y) :: r', h => by
  obtain ⟨rfl, h1, h2⟩ := h
  unfold mget
  by_cases hk : k = kl
  ·simp only [hk, if_true]; exact .inr ⟨x, y, rfl, rfl, h1⟩
  ·simp only [hk, if_false]; exact h2.get
 | [], _ :: _, h => h.elim
 | _ :: _, [], h => h.elim
theorem MLe.ok {O : Own} {w : World} {P : Program} {k b : Nat} {es es' : List (Lit × D)} (h : MLe es es') (hm : MapOk O w P k es b) : MapOk O w P k es' b := by
 obtain ⟨E, h1, h2⟩ := hm
 refine ⟨E, h1, fun kl => ?_⟩
 have h3 := h2 kl
 rcases h.get (kl := kl) with ⟨e1, e2⟩ | ⟨x, y, e1, e2, e3⟩
 ·rw [e1] at h3; rw [e2]; exact h3
 ·rw [e1] at h3; rw [e2]
  obtain ⟨v, k1, k2, k3⟩ := h3
  exact ⟨v, k1, k2, by have := e3 (fun _ => .no) O w v (by simpa only [AV.ok] using k3); simpa only [AV.ok] using this⟩
def ObLe : Ob -> Ob -> Prop
 | .dead, .dead => True
 | .obj t cs, .obj t' cs' => t = t' /\ EnvLe cs cs'
 | .tok t e n, .tok t' e' n' => t = t' /\ e = e' /\ n = n'
 | .gro t e n cs, .gro t' e' n' cs' => t = t' /\ e = e' /\ n = n' /\ EnvLe (cs.map .d) (cs'.map .d)
 | .nst t e n cs, .nst t' e' n' cs' => t = t' /\ e = e' /\ n = n' /\ NsLe cs cs'
 | .prv e n cs, .prv e' n' cs' => e = e' /\ n = n' /\ NsLe cs cs'
 | .mp P k es, .mp P' k' es' => P = P' /\ k = k' /\ MLe es es'
 | _, _ => False
def StoLe : Sto -> Sto -> Prop
 | [], [] => True
 | (i, x) :: r, (j, y) :: r' => i = j /\ ObLe x y /\ StoLe r r'
 | _, _ => False
theorem StoLe.sat : ∀ {s s' : Sto}, StoLe s s' -> ∀ id, ObLe (Abx.sat s id) (Abx.sat s' id)
 | [], [], _, _ => trivial
 | (i, x) :: r, (j, y) :: r', h, id => by
  obtain ⟨rfl, h1, h2⟩ := h
  simp only [Abx.sat]
  split
  ·exact h1
  ·exact h2.sat id
 | [], _ :: _, h, _ => h.elim
 | _ :: _, [], h, _ => h.elim
theorem EnvLe.doks {O : Own} {w : World} : ∀ {xs ys : List D} {vs : List Value}, EnvLe (xs.map .d) (ys.map .d) -> D.oks O w xs vs -> D.oks O w ys vs
 | [], [], _, _, h => h
 | x :: xs, y :: ys, _, hl, h => by
  simp only [D.oks] at h ⊢
  obtain ⟨v, r, h1, h0, h2, h3⟩ := h
  refine ⟨v, r, h1, h0, ?_, EnvLe.doks hl.2 h3⟩
  have := hl.1 (fun _ => .no) O w v (by simpa only [AV.ok] using h2)
  simpa only [AV.ok] using this
 | [], _ :: _, _, hl, _ => hl.elim
 | _ :: _, [], _, hl, _ => hl.elim
theorem EnvLe.length' : ∀ {xs ys : List D}, EnvLe (xs.map .d) (ys.map .d) -> xs.length = ys.length
 | [], [], _ => rfl
 | x :: xs, y :: ys, hl => by simp [EnvLe.length' hl.2]
 | [], _ :: _, hl => hl.elim
 | _ :: _, [], hl => hl.elim
theorem Inv.told {C : Ctx} {β : Beta} {s s' : Sto} {w : World} (h : Inv C β s w) (hs : ∀ id, ObLe (sat s id) (sat s' id)) : Inv C β s' w /\ C.forb β s' = C.forb β s := by
 have hown : ∀ b x, own β s' b x ↔ own β s b x := fun b x => by
  unfold own
  refine exists_congr fun id => ?_
  have := hs id
  revert this
  cases sat s id <;> cases sat s' id <;> intro h1 <;> first | exact h1.elim | exact Iff.rfl | skip
  ·obtain ⟨_, rfl, rfl⟩ := h1
   exact Iff.rfl
  ·obtain ⟨_, rfl, rfl, _⟩ := h1
   exact Iff.rfl
  ·obtain ⟨_, rfl, rfl, _⟩ := h1
   exact Iff.rfl
  ·obtain ⟨rfl, rfl, _⟩ := h1
   exact Iff.rfl
 have hblk : ∀ id b, blockOf β s' id b ↔ blockOf β s id b := fun id b => by
  unfold blockOf
  have := hs id
  revert this
  cases sat s id <;> cases sat s' id <;> intro h1 <;> first | exact h1.elim | exact Iff.rfl | skip
  ·obtain ⟨_, rfl, rfl⟩ := h1
   exact Iff.rfl
  ·obtain ⟨_, rfl, rfl, _⟩ := h1
   exact Iff.rfl
  ·obtain ⟨_, rfl, rfl, _⟩ := h1
   exact Iff.rfl
  ·obtain ⟨rfl, rfl, _⟩ := h1
   exact Iff.rfl
 have hf : C.forb β s' = C.forb β s := by funext b o; exact propext (or_congr Iff.rfl (hown b o))
 refine ⟨⟨h.size, h.io, h.keep, h.blks, fun b o ho => h.ownd b o ((hown b o).1 ho), fun id b hb => h.ownB id b ((hblk id b).1 hb), h.pl, h.low, fun id => ?_,
  fun i j b hi hj => h.inj i j b ((hblk i b).1 hi) ((hblk j b).1 hj)⟩, hf⟩
 rw [hf]
 have h1 := h.obs id
 have h2 := hs id
 revert h1 h2
 cases sat s id <;> cases sat s' id <;> intro h1 h2 <;> first | exact h2.elim | exact h1 | skip
 ·obtain ⟨rfl, h2⟩ := h2
  obtain ⟨b, vs, h3, h4, h5, h6⟩ := h1
  exact ⟨b, vs, h3, h4, h5, h6.imp fun _ h => h2.oks h⟩
 ·obtain ⟨rfl, rfl, rfl⟩ := h2
  exact h1
 ·obtain ⟨rfl, rfl, rfl, h2⟩ := h2
  obtain ⟨u, h3, h4, h5⟩ := h1
  refine ⟨u, h3, h2.length' ▸ h4, ?_⟩
  rcases h5 with h5 | ⟨b, cap, vs, k1, k2, k3, k4, k5, k6, pre, rest, k7, k8⟩
  ·exact .inl h5
  ·exact .inr ⟨b, cap, vs, k1, k2, k3, k4, k5, k6, pre, rest, k7, h2.doks k8⟩
 ·obtain ⟨rfl, rfl, rfl, h2⟩ := h2
  obtain ⟨u, bs, h3, h4, h5, h6⟩ := h1
  refine ⟨u, bs, h3, h4, h2.length ▸ h5, ?_⟩
  rcases h6 with h6 | ⟨b, cap, vs, k1, k2, k3, k4, k5, k6, k7, k8⟩
  ·exact .inl h6
  ·exact .inr ⟨b, cap, vs, k1, k2, k3, k4, k5, k6, k7, h2.nxs k8⟩
 ·obtain ⟨rfl, rfl, h2⟩ := h2
  obtain ⟨u, bs, h3, h4, h5, h6⟩ := h1
  refine ⟨u, bs, h3, h4, h2.length ▸ h5, ?_⟩
  rcases h6 with h6 | ⟨b, cap, vs, t, k1, k2, k3, k4, k5, k6, k9, k7, k8⟩
  ·exact .inl h6
  ·exact .inr ⟨b, cap, vs, t, k1, k2, k3, k4, k5, k6, k9, k7, h2.nxs k8⟩
 ·obtain ⟨rfl, rfl, h2⟩ := h2
  obtain ⟨b, h3, h4⟩ := h1
  exact ⟨b, h3, h2.ok h4⟩
theorem Weak.leS {k : Nat} {env env' : List AV} {s s' : Sto} (h : EnvLe env env') (hs : StoLe s s') : Weak k env s env' s' := fun C β a w hC hst => by
 obtain ⟨h1, hf⟩ := hst.inv.told hs.sat
 obtain ⟨h3, h4⟩ := h.get
 exact ⟨β, hst.defers, h1, by rw [hst.len, h3], fun i y hy => by rw [hf]; exact let ⟨x, hx, hle⟩ := h4 i y hy; hle _ _ _ _ (hst.env i x hx)⟩
def sdel (id : Nat) : Sto -> Sto
 | [] => []
 | (j, x) :: r => if j = id then sdel id r else (j, x.kill id) :: sdel id r
theorem sat_sdel (id j : Nat) : ∀ s : Sto, sat (sdel id s) j = sat (skill id s) j
 | [] => rfl
 | (i, x) :: r => by
  simp only [sdel, skill]
  by_cases h : i = id
  ·subst h
   simp only [if_true, sat, sat_sdel i j r]
   split
   ·rename_i h2; subst h2; rw [sat_skill]; simp
   ·rfl
  ·simp only [h, if_false, sat, sat_sdel id j r]
theorem Weak.drop {k : Nat} {env : List AV} {s : Sto} (id : Nat) (hid : k <= id) : Weak k env s (AV.rens (killρ id) env) (sdel id s) :=
 (Weak.kill id hid).trans (Weak.sto fun j => (sat_sdel id j s).symm)
theorem MWp.mono {P : Program} {k : Nat} {mc : MCode} {Q Q' : Post} {env : List AV} {s : Sto} (h : MWp P k mc Q env s) (hq : ∀ e env s, Q e env s -> Q' e env s) : MWp P k mc Q' env s :=
 fun C hC hf c hc β a w hst => wpIn_mono (h C hC hf c hc β a w hst) fun e _ _ ⟨C', hx, β', env', s', h1, h2⟩ => ⟨C', hx, β', env', s', h1, hq e env' s' h2⟩
def vcm (P : Program) (k : Nat) : MCode -> Post -> List AV -> Sto -> Prop
 | .skip, Q, env, s => Q .normal env s
 | .reg ms, Q, env, s => vgo P k (Q .normal) ms env s
 | .draw ms af, Q, env, s => P.follows .mixedOrders = true /\ vdr P k (drQ ms af Q) ms [] env s
 | .seq a b, Q, env, s => vcm P k a (thenQ (fun env s => vcm P k b Q env s) Q) env s
 | .cond o a b, Q, env, s => match ev env o with
  | .d (.lit (.bool t)) => if t = true then vcm P k a Q env s else vcm P k b Q env s
  | _ => False
 | .block id a, Q, env, s => vcm P k a (blockQ id Q) env s
 | .loop x, Q, env, s => MWp P k (.loop x) Q env s
 | .exit id, Q, env, s => Q (.exit id) env s
 | .ret, Q, env, s => Q .ret env s
 | .dead, _, _, _ => False
 | .ghost x, Q, env, s => ∃ env' s', Weak k env s env' s' /\ vcm P k x Q env' s'
 | .rng g ps a b, Q, env, s => MWp P k (.rng g ps a b) Q env s
theorem vcm_sound {P : Program} {k : Nat} : ∀ {mc : MCode} {Q : Post} {env : List AV} {s : Sto}, vcm P k mc Q env s -> MWp P k mc Q env s
 | .skip, _, _, _, h => m_skip h
 | .reg _, _, _, _, h => m_go h
 | .draw _ _, _, _, _, h => m_dgo h.1 h.2
 | .seq a b, Q, env, s, h => m_seq (MWp.mono (vcm_sound (mc := a) h) fun e env s hq => by
  cases e with
  | normal => exact vcm_sound (mc := b) hq
  | _ => exact hq)
 | .cond o a b, Q, env, s, h => by
  simp only [vcm] at h
  split at h
  ·rename_i t ht
   refine m_cond ht ?_
   unfold Br
   split at h
   ·rename_i hb; rw [if_pos hb]; exact vcm_sound (mc := a) h
   ·rename_i hb; rw [if_neg hb]; exact vcm_sound (mc := b) h
  ·exact h.elim
 | .block id a, _, _, _, h => m_block (vcm_sound (mc := a) h)
 | .loop x, _, _, _, h => h
 | .exit id, _, _, _, h => m_exit h
 | .ret, _, _, _, h => m_ret h
 | .dead, _, _, _, h => h.elim
 | .ghost x, _, _, _, h => let ⟨_, _, hw, h⟩ := h; m_ghost hw (vcm_sound (mc := x) h)
 | .rng _ _ _ _, _, _, _, h => h
def GhostQ (P : Program) (k : Nat) (x : MCode) (Q : Post) (env : List AV) (s : Sto) : Prop := ∃ env' s', Weak k env s env' s' /\ vcm P k x Q env' s'
theorem GhostQ.of {P : Program} {k : Nat} {x : MCode} {Q : Post} {env env' : List AV} {s s' : Sto} (hw : Weak k env s env' s') (h : vcm P k x Q env' s') : GhostQ P k x Q env s := ⟨_, _, hw, h⟩
def BrC (P : Program) (k : Nat) (b : Bool) (x y : MCode) (Q : Post) (env : List AV) (s : Sto) : Prop := if b = true then vcm P k x Q env s else vcm P k y Q env s
def vcondC (P : Program) (k : Nat) (x y : MCode) (Q : Post) (env : List AV) (s : Sto) : AV -> Prop
 | .d (.lit (.bool b)) => BrC P k b x y Q env s
 | _ => False
section
variable {P : Program} {k : Nat} {Q : Post} {env env' : List AV} {s s' : Sto} {x y mc : MCode} {b : Bool}
theorem vcm_skip : vcm P k .skip Q env s = Q .normal env s := (rfl)
theorem vcm_reg {ms : List MOper} : vcm P k (.reg ms) Q env s = vgo P k (Q .normal) ms env s := (rfl)
theorem vcm_draw {ms : List MOper} {af : List (List Nat)} : vcm P k (.draw ms af) Q env s = (P.follows .mixedOrders = true /\ vdr P k (drQ ms af Q) ms [] env s) := (rfl)
theorem vcm_seq : vcm P k (.seq x y) Q env s = vcm P k x (thenQ (vcm P k y Q) Q) env s := (rfl)
theorem vcm_block {id : Nat} : vcm P k (.block id x) Q env s = vcm P k x (blockQ id Q) env s := (rfl)
theorem vcm_loop : vcm P k (.loop x) Q env s = MWp P k (.loop x) Q env s := (rfl)
theorem vcm_rng {g : Operand} {ps : List Nat} : vcm P k (.rng g ps x y) Q env s = MWp P k (.rng g ps x y) Q env s := (rfl)
theorem vcm_ghost : vcm P k (.ghost x) Q env s = GhostQ P k x Q env s := (rfl)
theorem vcm_exit {id : Nat} : vcm P k (.exit id) Q env s = Q (.exit id) env s := (rfl)
theorem vcm_ret : vcm P k .ret Q env s = Q .ret env s := (rfl)
theorem vcm_cond {o : Operand} : vcm P k (.cond o x y) Q env s = vcondC P k x y Q env s (ev env o) := by
 simp only [vcm]
 split
 ·rename_i b h; rw [h]; rfl
 ·rename_i h
  unfold vcondC
  split
  ·rename_i b h2; exact absurd h2 (h b)
  ·rfl
theorem BrC_t : BrC P k true x y Q env s = vcm P k x Q env s := by simp [BrC]
theorem BrC_f : BrC P k false x y Q env s = vcm P k y Q env s := by simp [BrC]
end
section
variable {P : Program} {k k0 : Nat} {Q : Post} {K : List AV -> Sto -> Prop} {env env' : List AV} {s s' : Sto} {x y mc : MCode} {b b' want : Bool} {m : MOp} {d : Option Nat} {ms : List MOper}
 {F : List (List Nat × List Nat) -> List AV -> Sto -> Prop} {acc acc' : List (List Nat × List Nat)} {foot foot' : List Nat}
@[congr] theorem vcm_congr (he : env = env') (hs : s = s') : vcm P k mc Q env s = vcm P k mc Q env' s' := by rw [he, hs]
@[congr] theorem MWp_congr (he : env = env') (hs : s = s') : MWp P k mc Q env s = MWp P k mc Q env' s' := by rw [he, hs]
@[congr] theorem BrC_congr (hb : b = b') : BrC P k b x y Q env s = BrC P k b' x y Q env s := by rw [hb]
@[congr] theorem vrun_congr {R : List AV -> Sto -> Prop} {o o' : Out} (h : o = o') : vrun P k0 R d o = vrun P k0 R d o' := by rw [h]
@[congr] theorem BrG_congr (hb : b = b') : BrG P k0 K b want m d ms env s = BrG P k0 K b' want m d ms env s := by rw [hb]
@[congr] theorem callR_congr {R : List AV -> Sto -> Prop} {f : Nat} {args args' : List AV} (ha : args = args') (he : env = env') (hs : s = s') :
 callR P k0 f args env s d R = callR P k0 f args' env' s' d R := by rw [ha, he, hs]
@[congr] theorem vdrun_congr {o o' : Del} (hf : foot = foot') (h : o = o') : vdrun P k0 F ms acc foot d env s o = vdrun P k0 F ms acc foot' d env s o' := by rw [h, hf]
@[congr] theorem BrH_congr (hb : b = b') : BrH P k0 F b want m d ms acc env s = BrH P k0 F b' want m d ms acc env s := by rw [hb]
@[congr] theorem callD_congr {f : Nat} {args args' : List AV} (ha : args = args') : callD P k0 F ms acc foot d env s f args = callD P k0 F ms acc foot d env s f args' := by rw [ha]
@[congr] theorem drQ_congr {af : List (List Nat)} (ha : acc = acc') (he : env = env') (hs : s = s') : drQ ms af Q acc env s = drQ ms af Q acc' env' s' := by rw [ha, he, hs]
end
theorem callR_le {P : Program} {k0 f : Nat} {args env : List AV} {s : Sto} {d : Option Nat} {R : List AV -> Sto -> Prop} {dz : List D} {r : D} (hc : PFun P f dz r)
 (ha : EnvLe (args.map fun x => x.ren (inρ [])) (dz.map .d)) (hk : R (setD d env (.d r)) s) : callR P k0 f args env s d R := callK_S (callK_le ha hc hk)
theorem callR_leN {P : Program} {k0 f : Nat} {args env : List AV} {s : Sto} {d : Option Nat} {R : List AV -> Sto -> Prop} {dz : List D} {rs : List D} (hc : PFunN P f dz rs)
 (ha : EnvLe (args.map fun x => x.ren (inρ [])) (dz.map .d)) (hk : R (setD d env (.tup (rs.map .d))) s) : callR P k0 f args env s d R := callK_S (callK_leN ha hc hk)
theorem callD_le {P : Program} {k0 : Nat} {F : List (List Nat × List Nat) -> List AV -> Sto -> Prop} {ms : List MOper} {acc : List (List Nat × List Nat)} {foot : List Nat} {d : Option Nat} {env : List AV} {s : Sto}
 {f : Nat} {args : List AV} {dz : List D} {r : D} (hc : PFun P f dz r) (ha : EnvLe (args.map fun x => x.ren (inρ [])) (dz.map .d))
 (hk : vdr P k0 F ms ((foot, []) :: acc) (setD d env (.d r)) s) : callD P k0 F ms acc foot d env s f args := .inl ⟨_, ha, .inl ⟨r, hc, hk⟩⟩
theorem callD_leN {P : Program} {k0 : Nat} {F : List (List Nat × List Nat) -> List AV -> Sto -> Prop} {ms : List MOper} {acc : List (List Nat × List Nat)} {foot : List Nat} {d : Option Nat} {env : List AV} {s : Sto}
 {f : Nat} {args : List AV} {dz rs : List D} (hc : PFunN P f dz rs) (ha : EnvLe (args.map fun x => x.ren (inρ [])) (dz.map .d))
 (hk : vdr P k0 F ms ((foot, []) :: acc) (setD d env (.tup (rs.map .d))) s) : callD P k0 F ms acc foot d env s f args := .inl ⟨_, ha, .inr ⟨rs, hc, hk⟩⟩
theorem MFn.pureL {P : Program} {f : Nat} {mc : MCode} {n : Nat} {rs : List MRes} (h : MFn P f mc n rs) {args : List D} {r : D}
 (hm : MWp P 0 mc (finQ rs fun x _ => AV.le x (.d r)) (args.map .d ++ List.replicate (n - (args.map AV.d).length) .junk) []) : PFun P f args r :=
 (h.calls hm).mono fun _ _ hx => ⟨_, hx, rfl⟩
theorem MFn.pureLN {P : Program} {f : Nat} {mc : MCode} {n : Nat} {rs : List MRes} (h : MFn P f mc n rs) {args : List D} {ds : List D}
 (hm : MWp P 0 mc (finQ rs fun x _ => AV.le x (.tup (ds.map .d))) (args.map .d ++ List.replicate (n - (args.map AV.d).length) .junk) []) : PFunN P f args ds :=
 (h.calls hm).mono fun _ _ hx => ⟨_, hx, rfl⟩
def RunsN {σ β : Type} (f : σ -> Option (σ ⊕ β)) : Nat -> σ -> β -> Prop
 | 0, _, _ => False
 | n + 1, s, b => f s = some (.inr b) ∨ ∃ s', f s = some (.inl s') /\ RunsN f n s' b
theorem RunsN.det {σ β : Type} {f : σ -> Option (σ ⊕ β)} : ∀ {n m : Nat} {s : σ} {b c : β}, RunsN f n s b -> RunsN f m s c -> b = c
 | 0, _, _, _, _, h, _ => h.elim
 | _ + 1, 0, _, _, _, _, h => h.elim
 | n + 1, m + 1, s, b, c, h1, h2 => by
  rcases h1 with h1 | ⟨s1, h1, h3⟩ <;> rcases h2 with h2 | ⟨s2, h2, h4⟩ <;> rw [h1] at h2 <;> cases h2
  ·rfl
  ·exact RunsN.det h3 h4
open Classical in
def loopC {σ β : Type} (f : σ -> Option (σ ⊕ β)) (s : σ) : Option β := if h : ∃ b n, RunsN f n s b then some (choose h) else none
theorem loopC_some {σ β : Type} {f : σ -> Option (σ ⊕ β)} {s : σ} {b : β} (h : loopC f s = some b) : ∃ n, RunsN f n s b := by
 unfold loopC at h
 split at h
 ·rename_i hx; cases h; exact Classical.choose_spec hx
 ·cases h
theorem RunsN.loopC {σ β : Type} {f : σ -> Option (σ ⊕ β)} {n : Nat} {s : σ} {b : β} (h : RunsN f n s b) : loopC f s = some b := by
 have hx : ∃ b n, RunsN f n s b := ⟨b, n, h⟩
 unfold Abx.loopC
 rw [dif_pos hx]
 obtain ⟨m, hm⟩ := Classical.choose_spec hx
 rw [hm.det h]
theorem loopC_inr {σ β : Type} {f : σ -> Option (σ ⊕ β)} {s : σ} {b : β} (h : f s = some (.inr b)) : loopC f s = some b := RunsN.loopC (n := 1) (.inl h)
theorem loopC_inl {σ β : Type} {f : σ -> Option (σ ⊕ β)} {s s' : σ} (h : f s = some (.inl s')) : loopC f s = loopC f s' := by
 cases hx : loopC f s' with
 | some b => obtain ⟨n, hn⟩ := loopC_some hx; exact RunsN.loopC (n := n + 1) (.inr ⟨s', h, hn⟩)
 | none =>
  cases hy : loopC f s with
  | none => rfl
  | some b =>
   obtain ⟨n, hn⟩ := loopC_some hy
   cases n with
   | zero => exact hn.elim
   | succ n =>
    rcases hn with hn | ⟨s2, h2, h3⟩
    ·rw [h] at hn; cases hn
    ·rw [h] at h2; cases h2; rw [h3.loopC] at hx; cases hx
theorem loopC_is {σ β : Type} {f : σ -> Option (σ ⊕ β)} (G : σ -> Option β) (inv : σ -> Prop) (μ : σ -> Nat)
 (h : ∀ s, inv s -> (∃ s', f s = some (.inl s') /\ inv s' /\ μ s' < μ s /\ G s' = G s) ∨ (∃ b, f s = some (.inr b) /\ G s = some b)) : ∀ s, inv s -> loopC f s = G s := by
 have key : ∀ n s, μ s = n -> inv s -> loopC f s = G s := by
  intro n
  induction n using Nat.strongRecOn with
  | _ n ih =>
   intro s hn hs
   rcases h s hs with ⟨s', h1, h2, h3, h4⟩ | ⟨b, h1, h2⟩
   ·rw [loopC_inl h1, ih (μ s') (hn ▸ h3) s' rfl h2, h4]
   ·rw [loopC_inr h1, h2]
 exact fun s hs => key _ s rfl hs
theorem m_loopF {P : Program} {k : Nat} {Q : Post} {env : List AV} {s : Sto} {x : MCode} {σ β : Type} {f : σ -> Option (σ ⊕ β)} {s0 : σ} {b : β} (hb : loopC f s0 = some b)
 (ws : List Nat) (vs : σ -> List (Nat × AV)) (S : σ -> Sto) (hw : Weak k env s (putAll (junkAll env ws) (vs s0)) (S s0))
 (round : ∀ p t, f p = some t -> (∀ b', t = .inr b' -> b' = b) -> MWp P k x (thenQ (fun env' s' => ∃ p', t = .inl p' /\ Weak k env' s' (putAll (junkAll env ws) (vs p')) (S p')) Q)
  (putAll (junkAll env ws) (vs p)) (S p)) : MWp P k (.loop x) Q env s := by
 obtain ⟨n, hn⟩ := loopC_some hb
 refine m_loop' ws (fun p : Nat × σ => vs p.2) (fun p => S p.2) (fun p => RunsN f p.1 p.2 b) (·.1) (n, s0) hn hw ?_
 rintro ⟨m, p⟩ hm
 cases m with
 | zero => exact hm.elim
 | succ m =>
  rcases hm with hm | ⟨p', hm, hr⟩
  ·refine (round p _ hm fun b' hb' => by cases hb'; rfl).mono fun e env s hq => ?_
   cases e with
   | normal => obtain ⟨p', hp, _⟩ := hq; cases hp
   | _ => exact hq
  ·refine (round p _ hm fun b' hb' => by cases hb').mono fun e env s hq => ?_
   cases e with
   | normal => obtain ⟨p2, hp, hw⟩ := hq; cases hp; exact ⟨(m, p'), hr, Nat.lt_succ_self m, hw⟩
   | _ => exact hq
theorem need_some {α : Type} {p : Prop} [Decidable p] {a : Option α} {r : α} (h : (if p then a else none) = some r) : p /\ a = some r := by
 split at h
 ·rename_i hp; exact ⟨hp, h⟩
 ·cases h
theorem ite_some {α : Type} {c : Bool} {a b : Option α} {r : α} (h : (if c = true then a else b) = some r) : (c = true /\ a = some r) ∨ (c = false /\ b = some r) := by
 cases c with
 | true => exact .inl ⟨rfl, by simpa using h⟩
 | false => exact .inr ⟨rfl, by simpa using h⟩
theorem bind_some {α β : Type} {x : Option α} {K : α -> Option β} {r : β} (h : x.bind K = some r) : ∃ a, x = some a /\ K a = some r := Option.bind_eq_some_iff.1 h
theorem inr_some {σ β : Type} {x : Option β} {t : σ ⊕ β} {b : β} (h : x.map Sum.inr = some t) (hb : ∀ b', t = .inr b' -> b' = b) : x = some b := by
 cases x with
 | none => cases h
 | some c => cases h; rw [hb c rfl]
open Classical in
def ambO {α β : Type} (xs : List α) (a b : Option β) : Option β := if xs = [] then (if a = b then b else none) else b
theorem amb_some {α β : Type} {xs : List α} {a b : Option β} {r : β} (h : ambO xs a b = some r) : (xs = [] -> a = some r) /\ b = some r := by
 unfold ambO at h
 split at h
 ·split at h
  ·rename_i h1; exact ⟨fun _ => h1.trans h, h⟩
  ·cases h
 ·rename_i hx; exact ⟨fun he => absurd he hx, h⟩
open Classical in
def limO {α : Type} (f : Nat -> Option α) : Option α := if h : ∃ a n, f n = some a then some (choose h) else none
theorem limO_some {α : Type} {f : Nat -> Option α} {a : α} (h : limO f = some a) : ∃ n, f n = some a := by
 unfold limO at h
 split at h
 ·rename_i hx; cases h; exact Classical.choose_spec hx
 ·cases h
theorem need_i {p q : Prop} (hp : p) (hq : q) : p /\ q := ⟨hp, hq⟩
def loadKO (n off : Nat) (ag : Bool) (K : AV -> Prop) : Ob -> Prop
 | .obj _ cs => off + n <= cs.length /\ K (segAV n off cs ag)
 | _ => False
theorem loadK_ptr {n id off : Nat} {ag : Bool} {s : Sto} {K : AV -> Prop} : loadK n ag (.ptr id off) s K = loadKO n off ag K (sat s id) := by
 simp only [loadK]
 cases sat s id with
 | obj t cs => cases ag <;> rfl
 | _ => rfl
attribute [go_sem] loadKO loadK_ptr
theorem undo_nil : AV.undo [] = some [] := rfl
theorem undo_cons {x : D} {xs : List AV} : AV.undo (.d x :: xs) = (AV.undo xs).map (x :: ·) := rfl
theorem undo_own {e id : Nat} {ys : List D} {xs : List AV} : AV.undo (.own e id ys :: xs) = none := rfl
theorem undo_ptr {id off : Nat} {xs : List AV} : AV.undo (.ptr id off :: xs) = none := rfl
theorem undo_msl {e id off len : Nat} {xs : List AV} : AV.undo (.msl e id off len :: xs) = none := rfl
theorem undo_fn {f : Nat} {a b xs : List AV} : AV.undo (.fn f a b :: xs) = none := rfl
theorem undo_junk {xs : List AV} : AV.undo (.junk :: xs) = none := rfl
theorem undo_agg {ys xs : List AV} : AV.undo (.agg ys :: xs) = none := rfl
def mkO (cs : List AV) : Option (List D) -> AV
 | some ds => .d (.agg ds)
 | none => .agg cs
theorem mk_nil : AV.mk [] = .d (.agg []) := rfl
theorem mk_cons {x : AV} {xs : List AV} : AV.mk (x :: xs) = mkO (x :: xs) (AV.undo (x :: xs)) := by unfold AV.mk; cases AV.undo (x :: xs) <;> rfl
attribute [go_sem] undo_nil undo_cons undo_own undo_ptr undo_msl undo_fn undo_junk undo_agg mkO mk_nil mk_cons
theorem cAV_ptr0 : cAV (.pointer none) = .d (.lit (.pointer none)) := rfl
theorem cAV_map0 : cAV (.map none) = .d (.lit (.map none)) := rfl
theorem cAV_fn0 : cAV .nilFunc = .d (.lit .nilFunc) := rfl
theorem cD_int {k : IntKind} {n : Int} : cD (.int k n) = .lit (.int k n) := rfl
theorem cD_bool {b : Bool} : cD (.bool b) = .lit (.bool b) := rfl
theorem cD_string {b : ByteArray} : cD (.string b) = .lit (.string b) := rfl
theorem cD_nil : cD (.slice none 0 0) = .sl 0 (some true) [] := rfl
theorem cD_ptr0 : cD (.pointer none) = .lit (.pointer none) := rfl
theorem cD_map0 : cD (.map none) = .lit (.map none) := rfl
theorem cD_fn0 : cD .nilFunc = .lit .nilFunc := rfl
theorem one_int {k : IntKind} {n : Int} : one (.int k n) = true := rfl
theorem one_bool {b : Bool} : one (.bool b) = true := rfl
theorem one_string {b : ByteArray} : one (.string b) = true := rfl
theorem one_slice {a : Option Addr} {n c : Nat} : one (.slice a n c) = true := rfl
theorem one_ptr {a : Option Addr} : one (.pointer a) = true := rfl
theorem one_map {a : Option Nat} : one (.map a) = true := rfl
theorem one_fn0 : one .nilFunc = true := rfl
attribute [go_sem] cAV_ptr0 cAV_map0 cAV_fn0 cD_int cD_bool cD_string cD_nil cD_ptr0 cD_map0 cD_fn0 one_int one_bool one_string one_slice one_ptr one_map one_fn0 List.all_cons List.all_nil Bool.and_self
abbrev kD (k : IntKind) (n : Int) : D := .lit (.int k n)
abbrev sD (b : ByteArray) : D := .lit (.string b)
def slD {α : Type} (e : Nat) (f : α -> D) (xs : List α) : D := .sl e none (xs.map f)
theorem slK_slD {α : Type} {e : Nat} {f : α -> D} {xs : List α} : slK (.d (slD e f xs)) = some (e, xs.map f) := rfl
theorem nlK_slD {α : Type} {e : Nat} {f : α -> D} {xs : List α} : nlK (.d (slD e f xs)) = none := rfl
theorem cells_slD {α : Type} {e : Nat} {f : α -> D} {xs : List α} : AV.cells (.d (slD e f xs)) = some [.d (slD e f xs)] := rfl
theorem acells_slD {α : Type} {e : Nat} {f : α -> D} {xs : List α} : AV.acells (.d (slD e f xs)) = none := rfl
theorem dcells_slD {α : Type} {e : Nat} {f : α -> D} {xs : List α} : dcells (slD e f xs) = [slD e f xs] := rfl
theorem getD_map' {α : Type} [Inhabited α] {f : α -> D} {l : List α} {i : Nat} {d : D} (h : i < l.length) : (l.map f).getD i d = f (l.getD i default) := by
 simp [List.getD_eq_getElem?_getD, List.getElem?_map, List.getElem?_eq_getElem h]
attribute [go_sem] List.length_map List.length_append Option.map_some Option.map_none Option.bind_some and_self Nat.not_lt_zero Bool.not_true Bool.not_false List.forall_mem_cons List.not_mem_nil false_imp_iff implies_true getD_map' List.map_eq_nil_iff List.append_eq_nil_iff Int.toNat_natCast Ob.tok.injEq true_or or_true false_or or_false le_nil_iff DL_refl_iff DL_nil_iff le_aggD_t le_tup_t CLe StoLe ObLe sdel
attribute [go_sem] vcm_rng vcm_ghost vcm_skip vcm_reg vcm_draw vcm_seq vcm_block vcm_loop vcm_exit vcm_ret vcm_cond BrC_t BrC_f vcondC slK_slD nlK_slD cells_slD acells_slD dcells_slD inρ outρ
theorem EnvLe.refl : ∀ xs : List AV, EnvLe xs xs
 | [] => trivial
 | x :: xs => ⟨AV.le_refl x, EnvLe.refl xs⟩
theorem ObLe.refl : ∀ o : Ob, ObLe o o
 | .dead => trivial
 | .obj _ cs => ⟨rfl, EnvLe.refl cs⟩
 | .tok _ _ _ => ⟨rfl, rfl, rfl⟩
 | .gro _ _ _ _ => ⟨rfl, rfl, rfl, EnvLe.refl _⟩
 | .nst _ _ _ _ => ⟨rfl, rfl, rfl, NsLe.refl _⟩
 | .prv _ _ _ => ⟨rfl, rfl, NsLe.refl _⟩
 | .mp _ _ _ => ⟨rfl, rfl, MLe.refl _⟩
theorem told_own {β : Beta} {s s' : Sto} (hs : ∀ id, ObLe (sat s id) (sat s' id)) (b o : Nat) : own β s' b o ↔ own β s b o := by
 unfold own
 refine exists_congr fun id => ?_
 have := hs id
 revert this
 cases sat s id <;> cases sat s' id <;> intro h1 <;> first | exact h1.elim | exact Iff.rfl | skip
 ·obtain ⟨_, rfl, rfl⟩ := h1
  exact Iff.rfl
 ·obtain ⟨_, rfl, rfl, _⟩ := h1
  exact Iff.rfl
 ·obtain ⟨_, rfl, rfl, _⟩ := h1
  exact Iff.rfl
 ·obtain ⟨rfl, rfl, _⟩ := h1
  exact Iff.rfl
theorem told_blk {β : Beta} {s s' : Sto} (hs : ∀ id, ObLe (sat s id) (sat s' id)) (id b : Nat) : blockOf β s' id b ↔ blockOf β s id b := by
 unfold blockOf
 have := hs id
 revert this
 cases sat s id <;> cases sat s' id <;> intro h1 <;> first | exact h1.elim | exact Iff.rfl | skip
 ·obtain ⟨_, rfl, rfl⟩ := h1
  exact Iff.rfl
 ·obtain ⟨_, rfl, rfl, _⟩ := h1
  exact Iff.rfl
 ·obtain ⟨_, rfl, rfl, _⟩ := h1
  exact Iff.rfl
 ·obtain ⟨rfl, rfl, _⟩ := h1
  exact Iff.rfl
theorem Inv.ctx {C : Ctx} {s1 : Sto} {β : Beta} {s : Sto} {w : World} (hs : ∀ id, ObLe (sat C.s id) (sat s1 id)) : Inv C β s w ↔ Inv { C with s := s1 } β s w := by
 constructor
 ·intro h
  exact ⟨h.size, h.io, fun b o v h1 h2 => h.keep b o v h1 fun h3 => h2 ((told_own hs b o).2 h3), fun b h1 h2 => h.blks b h1 fun id h3 => h2 id ((told_blk hs id b).2 h3),
   fun b o h1 => (h.ownd b o h1).imp (fun h2 => (told_own hs b o).2 h2) id, fun id b h1 => (h.ownB id b h1).imp (fun ⟨i, h2⟩ => ⟨i, (told_blk hs i b).2 h2⟩) (fun x => x), h.pl,
   fun b o h1 => ⟨(h.low b o h1).1, fun h2 => (h.low b o h1).2 ((told_own hs b o).1 h2)⟩, h.obs, h.inj⟩
 ·intro h
  exact ⟨h.size, h.io, fun b o v h1 h2 => h.keep b o v h1 fun h3 => h2 ((told_own hs b o).1 h3), fun b h1 h2 => h.blks b h1 fun id h3 => h2 id ((told_blk hs id b).1 h3),
   fun b o h1 => (h.ownd b o h1).imp (fun h2 => (told_own hs b o).1 h2) id, fun id b h1 => (h.ownB id b h1).imp (fun ⟨i, h2⟩ => ⟨i, (told_blk hs i b).1 h2⟩) (fun x => x), h.pl,
   fun b o h1 => ⟨(h.low b o h1).1, fun h2 => (h.low b o h1).2 ((told_own hs b o).2 h2)⟩, h.obs, h.inj⟩
theorem ACalls.sto {P : Program} {f : Nat} {dz : List AV} {s s1 : Sto} {k : Nat} {R : AV -> Sto -> Prop} (h : ACalls P f dz s1 k R) (hs : StoLe s s1) : ACalls P f dz s k R := fun C vs h1 h2 h3 h4 => by
 subst h1
 have hs' := hs.sat
 obtain ⟨h5, h6⟩ := h3.told hs'
 refine (h { C with s := s1 } vs rfl h2 ((Inv.ctx hs').1 h5) (by
  show AV.oks C.β (Ctx.forb { C with s := s1 } C.β s1) C.w dz vs.toList
  have : Ctx.forb { C with s := s1 } C.β s1 = C.forb C.β C.s := h6
  rw [this]; exact h4)).mono fun e w' ⟨v, x, β', s', e1, e2, e3, e4⟩ => ⟨v, x, β', s', e1, (Inv.ctx hs').2 e2, e3, e4⟩
def sdels : List Nat -> Sto -> Sto
 | [], s => s
 | i :: r, s => sdels r (sdel i s)
def rendel : List Nat -> AV -> AV
 | [], x => x
 | i :: r, x => rendel r (x.ren (killρ i))
theorem Inv.drop {C : Ctx} {β : Beta} {s : Sto} {w : World} (h : Inv C β s w) (id : Nat) (hid : C.k <= id) : ∃ β', Inv C β' (sdel id s) w /\
 ∀ x v, AV.ok β (C.forb β s) w x v -> AV.ok β' (C.forb β' (sdel id s)) w (x.ren (killρ id)) v := by
 have hs : ∀ j, ObLe (sat (skill id s) j) (sat (sdel id s) j) := fun j => by rw [sat_sdel]; exact .refl _
 obtain ⟨h1, h2⟩ := (h.kill id hid).told hs
 exact ⟨_, h1, fun x v hx => by rw [h2]; exact kill_ok hx⟩
theorem Inv.drops {C : Ctx} {w : World} : ∀ {ids : List Nat} {β : Beta} {s : Sto}, Inv C β s w -> (∀ i ∈ ids, C.k <= i) -> ∃ β', Inv C β' (sdels ids s) w /\
 ∀ x v, AV.ok β (C.forb β s) w x v -> AV.ok β' (C.forb β' (sdels ids s)) w (rendel ids x) v
 | [], β, _, h, _ => ⟨β, h, fun _ _ hx => hx⟩
 | i :: r, _, _, h, hi => by
  obtain ⟨β1, h1, h2⟩ := h.drop i (hi i (by simp))
  obtain ⟨β2, h3, h4⟩ := h1.drops (ids := r) fun j hj => hi j (by simp [hj])
  exact ⟨β2, h3, fun x v hx => h4 _ _ (h2 _ _ hx)⟩
theorem ACalls.cut {P : Program} {f : Nat} {args : List AV} {s : Sto} {k : Nat} {y : AV} {t : Sto}
 (h : ACalls P f args s k fun x s' => ∃ ids, (∀ i ∈ ids, k <= i) /\ AV.le (rendel ids x) y /\ StoLe (sdels ids s') t) : ACalls P f args s k fun x s' => x = y /\ s' = t := fun C vs h1 h2 h3 h4 =>
 (h C vs h1 h2 h3 h4).mono fun e w' ⟨v, x, β', s', e1, e2, e3, ids, e4, e5, e6⟩ => by
  subst h2
  obtain ⟨β2, h5, h6⟩ := e2.drops e4
  obtain ⟨h7, h8⟩ := h5.told e6.sat
  exact ⟨v, y, β2, t, e1, h7, by rw [h8]; exact e5 _ _ _ _ (h6 _ _ e3), rfl, rfl⟩
theorem MFn.callsO {P : Program} {f : Nat} {mc : MCode} {n : Nat} {rs : List MRes} (h : MFn P f mc n rs) {args : List AV} {s t : Sto} {k : Nat} {y : AV}
 (hm : MWp P k mc (finQ rs fun x s' => ∃ ids, (∀ i ∈ ids, k <= i) /\ AV.le (rendel ids x) y /\ StoLe (sdels ids s') t) (args ++ List.replicate (n - args.length) .junk) s) :
 ACalls P f args s k fun x s' => x = y /\ s' = t := ACalls.cut (h.calls hm)
theorem callR_o {P : Program} {k0 f : Nat} {args env : List AV} {s : Sto} {d : Option Nat} {R : List AV -> Sto -> Prop} (pr nw : List (Nat × Nat)) {dz : List AV} {s1 t : Sto} {y : AV}
 (hc : ACalls P f dz s1 pr.length fun x s' => x = y /\ s' = t) (h1 : pr.map (·.1) = List.range pr.length) (h2 : ((pr ++ nw).map (·.1)).Nodup) (h3 : ((pr ++ nw).map (·.2)).Nodup)
 (h4 : ∀ p ∈ nw, sat s p.2 = .dead /\ k0 <= p.2) (ha : EnvLe (args.map fun x => x.ren (inρ pr)) dz) (hs : StoLe (scallee s pr pr) s1)
 (hk : R (setD d env (y.ren (outρ (pr ++ nw)))) (sback s t (pr ++ nw) (pr ++ nw))) : callR P k0 f args env s d R :=
 callK_S ⟨pr, nw, _, h1, h2, h3, h4, (hc.sto hs).args ha, fun x s' ⟨e1, e2⟩ => by subst e1; subst e2; exact hk⟩
theorem callD_o {P : Program} {k0 : Nat} {F : List (List Nat × List Nat) -> List AV -> Sto -> Prop} {ms : List MOper} {acc : List (List Nat × List Nat)} {foot : List Nat} {d : Option Nat} {env : List AV} {s : Sto}
 {f : Nat} {args : List AV} (pr nw : List (Nat × Nat)) {dz : List AV} {s1 t : Sto} {y : AV}
 (hc : ACalls P f dz s1 pr.length fun x s' => x = y /\ s' = t) (h1 : pr.map (·.1) = List.range pr.length) (h2 : ((pr ++ nw).map (·.1)).Nodup) (h3 : ((pr ++ nw).map (·.2)).Nodup)
 (h4 : ∀ p ∈ nw, sat s p.2 = .dead /\ k0 <= p.2) (ha : EnvLe (args.map fun x => x.ren (inρ pr)) dz) (hs : StoLe (scallee s pr pr) s1)
 (hk : vdr P k0 F ms (((pr ++ nw).map (·.2) ++ foot, (obΔ t (pr ++ nw) (pr ++ nw)).map (·.1)) :: acc) (setD d env (y.ren (outρ (pr ++ nw)))) (sapp s (obΔ t (pr ++ nw) (pr ++ nw)))) :
 callD P k0 F ms acc foot d env s f args := .inr ⟨pr, nw, y, t, h1, h2, h3, h4, (hc.sto hs).args ha, hk⟩
attribute [go_sem] obΔ scallee sback Ob.ren sdels rendel
mutual
def AV.frz (id : Nat) (ds : List D) : AV -> AV
 | .junk => .junk
 | .d x => .d x
 | .own e j xs => if j = id then .d (.sl e none xs) else .own e j xs
 | .ptr j off => if j = id then .junk else .ptr j off
 | .msl e j off len => if j = id then (if e = 1 /\ off + len <= ds.length /\ (∀ d ∈ ds, (dcells d).length = 1) then .d (.sl 1 none ((ds.drop off).take len))
  else if off = 0 /\ len = ds.length /\ (∀ d ∈ ds, (dcells d).length = e) then .d (.sl e none ds) else .junk) else .msl e j off len
 | .pv cs => .pv cs
 | .agg cs => .agg (AV.frzs id ds cs)
 | .tup cs => .tup (AV.frzs id ds cs)
 | .fn f a b => .fn f (AV.frzs id ds a) (AV.frzs id ds b)
 | .gow e j n => if j = id then (if n = ds.length /\ (∀ d ∈ ds, (dcells d).length = e) then .d (.sl e none ds) else .junk) else .gow e j n
 | .gptr j k off => if j = id then .junk else .gptr j k off
 | .ful e xs => .ful e xs
 | .dp x => .dp x
 | .mp j => if j = id then .junk else .mp j
def AV.frzs (id : Nat) (ds : List D) : List AV -> List AV
 | [] => []
 | x :: xs => AV.frz id ds x :: AV.frzs id ds xs
end
theorem frzs_mapA (id : Nat) (ds : List D) : ∀ xs : List AV, AV.frzs id ds xs = xs.map (AV.frz id ds)
 | [] => rfl
 | x :: xs => by simp only [AV.frzs, List.map_cons, frzs_mapA id ds xs]
theorem told_frz {id : Nat} {ds : List D} {β β' : Beta} {O O' : Own} {w w' : World} {x : AV} {v : Value} (h : AV.ok β O w x v -> AV.ok β' O' w' (x.frz id ds) v) :
 ((∃ d, x = .dp d /\ x.frz id ds = .dp d) ∨ (∀ d, x ≠ .dp d) /\ (∀ d, x.frz id ds ≠ .dp d) /\ (AV.ok β O w x v -> AV.ok β' O' w' (x.frz id ds) v)) := by
 cases x with
 | dp d => exact .inl ⟨d, rfl, rfl⟩
 | own e j xs => refine .inr ⟨fun d h => (nomatch h), fun d h => ?_, h⟩; simp only [AV.frz] at h; split at h <;> exact nomatch h
 | ptr j off => refine .inr ⟨fun d h => (nomatch h), fun d h => ?_, h⟩; simp only [AV.frz] at h; split at h <;> exact nomatch h
 | msl e j off len => refine .inr ⟨fun d h => (nomatch h), fun d h => ?_, h⟩; simp only [AV.frz] at h; (repeat' split at h) <;> exact nomatch h
 | gow e j k => refine .inr ⟨fun d h => (nomatch h), fun d h => ?_, h⟩; simp only [AV.frz] at h; (repeat' split at h) <;> exact nomatch h
 | gptr j k off => refine .inr ⟨fun d h => (nomatch h), fun d h => ?_, h⟩; simp only [AV.frz] at h; split at h <;> exact nomatch h
 | mp j => refine .inr ⟨fun d h => (nomatch h), fun d h => ?_, h⟩; simp only [AV.frz] at h; split at h <;> exact nomatch h
 | _ => exact .inr ⟨fun d h => (nomatch h), fun d h => (nomatch h), h⟩
def Ob.frz (id : Nat) (ds : List D) : Ob -> Ob
 | .obj t cs => .obj t (AV.frzs id ds cs)
 | .nst t e n cs => .nst t e n (AV.frzs id ds cs)
 | .prv e n cs => .prv e n (AV.frzs id ds cs)
 | x => x
def sfrz (id : Nat) (ds : List D) : Sto -> Sto
 | [] => []
 | (j, x) :: r => if j = id then sfrz id ds r else (j, x.frz id ds) :: sfrz id ds r
theorem sat_sfrz (id : Nat) (ds : List D) (j : Nat) : ∀ s : Sto, sat (sfrz id ds s) j = if j = id then .dead else (sat s j).frz id ds
 | [] => by simp [sfrz, sat, Ob.frz]
 | (i, x) :: r => by
  simp only [sfrz]
  by_cases h : i = id
  ·subst h
   simp only [if_true, sat, sat_sfrz i ds j r]
   split
   ·rfl
   ·rfl
  ·simp only [h, if_false, sat, sat_sfrz id ds j r]
   by_cases h2 : j = i
   ·subst h2; simp [h]
   ·simp [h2]
theorem own_frz {β : Beta} {s : Sto} {id b o : Nat} {ds : List D} (h : own (bset β id .no) (sfrz id ds s) b o) : ∃ i, i ≠ id /\ ownAt β s i b o := by
 obtain ⟨i, h⟩ := h
 rw [sat_sfrz] at h
 by_cases hi : i = id
 ·subst hi; simp at h
 ·refine ⟨i, hi, ?_⟩
  unfold ownAt
  simp only [hi, if_false] at h
  cases hs : sat s i with
  | dead => rw [hs] at h; exact h
  | obj t cs => rw [hs] at h; simpa [Ob.frz, bset, hi] using h
  | tok t e n => rw [hs] at h; simpa [Ob.frz, bset, hi] using h
  | gro t e n cs => rw [hs] at h; simpa [Ob.frz, bset, hi] using h
  | nst t e n cs => rw [hs] at h; simpa [Ob.frz, bset, hi] using h
  | prv e n cs => rw [hs] at h; simpa [Ob.frz, bset, hi] using h
  | mp P k es => rw [hs] at h; first | exact h.elim | simpa [Ob.frz, bset, hi] using h
theorem blockOf_frz {β : Beta} {s : Sto} {id i b : Nat} {ds : List D} (h : blockOf (bset β id .no) (sfrz id ds s) i b) : i ≠ id /\ blockOf β s i b := by
 unfold blockOf at h ⊢
 rw [sat_sfrz] at h
 by_cases hi : i = id
 ·subst hi; simp at h
 ·refine ⟨hi, ?_⟩
  simp only [hi, if_false] at h
  cases hs : sat s i with
  | dead => rw [hs] at h; exact h
  | obj t cs => rw [hs] at h; simpa [Ob.frz, bset, hi] using h
  | tok t e n => rw [hs] at h; simpa [Ob.frz, bset, hi] using h
  | gro t e n cs => rw [hs] at h; simpa [Ob.frz, bset, hi] using h
  | nst t e n cs => rw [hs] at h; simpa [Ob.frz, bset, hi] using h
  | prv e n cs => rw [hs] at h; simpa [Ob.frz, bset, hi] using h
  | mp P k es => rw [hs] at h; first | exact h.elim | simpa [Ob.frz, bset, hi] using h
theorem row_of {O : Own} {w : World} {b : Nat} : ∀ {ds : List D} {vs : List Value} {o : Nat}, (∀ d ∈ ds, dcells d = [d]) -> D.oks O w ds vs -> Cells O w b o vs -> D.row O w b o 1 ds
 | [], _, _, _, _, _ => by simp [D.row]
 | d :: ds, vs, o, hd, h, hc => by
  simp only [D.oks] at h
  obtain ⟨v, r, rfl, h1, h2, h3⟩ := h
  rw [D.row_cons]
  refine ⟨⟨[v], rfl, fun j u hj => ?_, ?_⟩, row_of (fun x hx => hd x (by simp [hx])) h3 fun j u hj => ?_⟩
  ·cases j with
   | zero => simp at hj; subst hj; exact hc 0 v rfl
   | succ j => simp at hj
  ·have := hd d (by simp)
   cases d with
   | agg cs =>
    simp only [dcells] at this
    simp only [D.cel]
    have hx := congrArg List.length this
    cases cs with
    | nil => simp at hx
    | cons c cs =>
     simp only [List.cons.injEq] at this
     obtain ⟨e1, _⟩ := this
     have := congrArg SizeOf.sizeOf e1
     simp at this
     omega
   | _ => exact ⟨v, rfl, h2⟩
  ·have := hc (j + 1) u hj
   rw [show o + 1 + j = o + (j + 1) by omega]
   exact this
section
variable {C : Ctx} {β : Beta} {s : Sto} {w : World} {id t : Nat} {ds : List D}
theorem forb_frz {b o : Nat} (h : C.forb (bset β id .no) (sfrz id ds s) b o) : C.forb β s b o := h.imp (fun x => x) fun h => let ⟨i, _, h⟩ := own_frz h; ⟨i, h⟩
theorem frz_mono {x : D} {v : Value} (h : D.ok (C.forb β s) w x v) : D.ok (C.forb (bset β id .no) (sfrz id ds s)) w x v := D.ok_mono (fun _ _ _ hc hn => ⟨hc, fun h => hn (forb_frz h)⟩) _ _ h
theorem frz_monos {x : List D} {v : List Value} (h : D.oks (C.forb β s) w x v) : D.oks (C.forb (bset β id .no) (sfrz id ds s)) w x v := D.oks_mono (fun _ _ _ hc hn => ⟨hc, fun h => hn (forb_frz h)⟩) _ _ h
def FrzOk (s : Sto) (id : Nat) (ds : List D) : Prop :=
 (∃ t, sat s id = .obj t (ds.map .d) /\ ∀ d ∈ ds, dcells d = [d]) ∨ (∃ t e, sat s id = .gro t e ds.length (ds.flatMap dcells) /\ ∀ d ∈ ds, (dcells d).length = e) ∨
  ∃ t e, sat s id = .obj t ((ds.flatMap dcells).map .d) /\ (∀ d ∈ ds, (dcells d).length = e) /\ e ≠ 1 /\ ds ≠ []
theorem frz_msl (h : Inv C β s w) (ho : sat s id = .obj t (ds.map .d)) (hd : ∀ d ∈ ds, dcells d = [d]) {off len : Nat} (hl : off + len <= ds.length) {v : Value}
 (hv : AV.ok β (C.forb β s) w (.msl 1 id off len) v) : D.ok (C.forb (bset β id .no) (sfrz id ds s)) w (.sl 1 none ((ds.drop off).take len)) v := by
 simp only [AV.ok] at hv
 obtain ⟨b, cap, h1, ⟨h2, h3⟩, rfl⟩ := hv
 have hob := h.obs id
 rw [ho] at hob
 obtain ⟨b', vs, h4, h5, h6, h7⟩ := hob
 rw [h1] at h4
 cases h4
 have hlen : ((ds.drop off).take len).length = len := by simp; omega
 obtain ⟨pre, rest, hvs, h7⟩ := h7
 have h6' : ∀ u ∈ pre, one u = true := fun u hu => h6 u (by rw [hvs]; exact List.mem_append_left _ hu)
 have hoks := oks_oneD h6' h7
 have hcells : Cells (C.forb (bset β id .no) (sfrz id ds s)) w b 0 pre := fun j u hj => by
  have hju : vs[j]? = some u := by
   have : vs.toList[j]? = some u := by rw [hvs, List.getElem?_append_left (List.getElem?_eq_some_iff.1 hj).1]; exact hj
   simpa using this
  refine ⟨?_, ?_, h6' u (List.mem_of_getElem? hj)⟩
  ·simp [World.cell?, h5, hju]
  ·rintro (hO | hO)
   ·have := h.low b (0 + j) hO
    rcases h.ownd b (0 + j) ⟨id, by rw [ho]; exact h1⟩ with h8 | h8
    ·exact this.2 h8
    ·omega
   ·obtain ⟨i, hi, hO⟩ := own_frz hO
    exact hi (h.inj i id b hO.block (by unfold blockOf; rw [ho]; exact h1))
 simp only [D.ok]
 refine ⟨some ⟨b, off, none⟩, cap, by rw [hlen], by rw [hlen]; exact ⟨h2, h3⟩, trivial, .inr ⟨b, off, rfl, ?_⟩⟩
 have hall := frz_monos (id := id) (ds := ds) hoks
 rw [D.oks_iff] at hall
 refine row_of (vs := (pre.drop off).take len) (fun d hd' => hd d (List.mem_of_mem_drop (List.mem_of_mem_take hd'))) ?_ fun j u hj => ?_
 ·rw [D.oks_iff]
  refine ⟨by simp [<- hall.1], fun i x u hx hu => ?_⟩
  rw [List.getElem?_take] at hx hu
  split at hx
  ·rename_i hi
   rw [if_pos hi] at hu
   rw [List.getElem?_drop] at hx hu
   exact hall.2 _ _ _ hx hu
  ·cases hx
 ·rw [List.getElem?_take] at hj
  split at hj
  ·rw [List.getElem?_drop] at hj
   have := hcells (off + j) u hj
   rwa [show 0 + (off + j) = off + j by omega] at this
  ·cases hj
theorem doks_split {O : Own} {w : World} : ∀ {xs ys : List D} {vs : List Value}, D.oks O w (xs ++ ys) vs -> ∃ us r, vs = us ++ r /\ D.oks O w xs us /\ D.oks O w ys r
 | [], ys, vs, h => ⟨[], vs, rfl, by simp [D.oks], h⟩
 | x :: xs, ys, vs, h => by
  simp only [List.cons_append, D.oks] at h
  obtain ⟨v, r, rfl, h0, h1, h2⟩ := h
  obtain ⟨us, r', rfl, h3, h4⟩ := doks_split h2
  exact ⟨v :: us, r', rfl, by simp only [D.oks]; exact ⟨v, us, rfl, h0, h1, h3⟩, h4⟩
theorem flat_row {O : Own} {w : World} {b e : Nat} : ∀ {ds : List D} {vs : List Value} {o : Nat}, (∀ d ∈ ds, (dcells d).length = e) -> D.oks O w (ds.flatMap dcells) vs -> Cells O w b o vs -> D.row O w b o e ds
 | [], _, _, _, _, _ => by simp [D.row]
 | d :: ds, vs, o, hd, h, hc => by
  rw [List.flatMap_cons] at h
  obtain ⟨us, r, rfl, h1, h2⟩ := doks_split h
  have hl := D.oks_length h1
  rw [hd d (by simp)] at hl
  rw [D.row_cons]
  refine ⟨⟨us, hl, fun j u hj => ?_, oks_cel h1⟩, flat_row (fun x hx => hd x (by simp [hx])) h2 fun j u hj => ?_⟩
  ·exact hc j u (by rw [List.getElem?_append_left (List.getElem?_eq_some_iff.1 hj).1]; exact hj)
  ·have := hc (e + j) u (by rw [List.getElem?_append_right (by omega), hl, Nat.add_sub_cancel_left]; exact hj)
   rwa [<- Nat.add_assoc] at this
theorem frz_gow {e : Nat} (h : Inv C β s w) (ho : sat s id = .gro t e ds.length (ds.flatMap dcells)) {e' : Nat} (hd : ∀ d ∈ ds, (dcells d).length = e') {v : Value}
 (hv : AV.ok β (C.forb β s) w (.gow e' id ds.length) v) : D.ok (C.forb (bset β id .no) (sfrz id ds s)) w (.sl e' none ds) v := by
 simp only [AV.ok] at hv
 obtain ⟨u, m, h1, h2, h3, _⟩ := hv
 have hob := h.obs id
 rw [ho] at hob
 obtain ⟨u', h4, _, h6⟩ := hob
 rw [h4] at h1
 obtain ⟨rfl, rfl⟩ := h1
 have := h3 rfl
 subst this
 simp only [D.ok]
 rcases h6 with ⟨rfl, h7⟩ | ⟨b, cap, vs, rfl, k2, k3, k4, k5, k6, pre, rest, k7, k8⟩
 ·have : ds = [] := List.length_eq_zero_iff.1 h7
  subst this
  exact ⟨none, 0, rfl, ⟨Nat.le_refl _, by omega⟩, trivial, .inl rfl⟩
 ·refine ⟨_, cap, rfl, ⟨k4, k5⟩, trivial, .inr ⟨b, 0, rfl, flat_row hd (frz_monos k8) fun j u hj => ?_⟩⟩
  have hju : vs[j]? = some u := by
   have : vs.toList[j]? = some u := by rw [k7, List.getElem?_append_left (List.getElem?_eq_some_iff.1 hj).1]; exact hj
   simpa using this
  refine ⟨by simp [World.cell?, k2, hju], ?_, k6 u (by rw [k7]; exact List.mem_append_left _ (List.mem_of_getElem? hj))⟩
  have hbl : blockOf β s id b := by unfold blockOf; rw [ho]; exact ⟨cap, h4⟩
  rintro (hO | hO)
  ·have := h.low b (0 + j) hO
   rcases h.ownd b (0 + j) ⟨id, by rw [ho]; exact ⟨cap, h4⟩⟩ with h8 | h8
   ·exact this.2 h8
   ·omega
  ·obtain ⟨i, hi, hO⟩ := own_frz hO
   exact hi (h.inj i id b hO.block hbl)
theorem frz_flat {e : Nat} (h : Inv C β s w) (ho : FrzOk s id ds) (hd : ∀ d ∈ ds, (dcells d).length = e) (hn : ¬ (e = 1 /\ 0 + ds.length <= ds.length /\ ∀ d ∈ ds, (dcells d).length = 1)) {v : Value}
 (hv : AV.ok β (C.forb β s) w (.msl e id 0 ds.length) v) : D.ok (C.forb (bset β id .no) (sfrz id ds s)) w (.sl e none ds) v := by
 simp only [AV.ok] at hv
 obtain ⟨b, cap, h1, ⟨h2, h3⟩, rfl⟩ := hv
 simp only [D.ok]
 by_cases hds : ds = []
 ·subst hds; exact ⟨_, cap, rfl, ⟨h2, h3⟩, trivial, .inl rfl⟩
 obtain ⟨d0, hd0⟩ := List.exists_mem_of_ne_nil _ hds
 rcases ho with ⟨t, ho, hd1⟩ | ⟨t, e', ho, hd1⟩ | ⟨t, e', ho, hd1, he1, hne⟩
 ·exfalso
  have e1 := hd d0 hd0
  rw [hd1 d0 hd0] at e1
  exact hn ⟨e1.symm, by omega, fun d hd => by rw [hd1 d hd]; rfl⟩
 ·have hob := h.obs id
  rw [ho] at hob
  obtain ⟨u, h4, _⟩ := hob
  rw [h1] at h4
  cases h4
 ·have hob := h.obs id
  rw [ho] at hob
  obtain ⟨b', vs, h4, h5, h6, h7⟩ := hob
  rw [h1] at h4
  cases h4
  obtain ⟨pre, rest, hvs, h7⟩ := h7
  have h6' : ∀ u ∈ pre, one u = true := fun u hu => h6 u (by rw [hvs]; exact List.mem_append_left _ hu)
  have hoks := oks_oneD h6' h7
  refine ⟨_, cap, rfl, ⟨h2, h3⟩, trivial, .inr ⟨b, 0, rfl, flat_row hd (frz_monos hoks) fun j u hj => ?_⟩⟩
  have hju : vs[j]? = some u := by
   have : vs.toList[j]? = some u := by rw [hvs, List.getElem?_append_left (List.getElem?_eq_some_iff.1 hj).1]; exact hj
   simpa using this
  refine ⟨by simp [World.cell?, h5, hju], ?_, h6' u (List.mem_of_getElem? hj)⟩
  rintro (hO | hO)
  ·have := h.low b (0 + j) hO
   rcases h.ownd b (0 + j) ⟨id, by rw [ho]; exact h1⟩ with h8 | h8
   ·exact this.2 h8
   ·omega
  ·obtain ⟨i, hi, hO⟩ := own_frz hO
   exact hi (h.inj i id b hO.block (by unfold blockOf; rw [ho]; exact h1))
mutual
theorem frz_ok (h : Inv C β s w) (ho : FrzOk s id ds) : ∀ (x : AV) (v : Value), AV.ok β (C.forb β s) w x v ->
 AV.ok (bset β id .no) (C.forb (bset β id .no) (sfrz id ds s)) w (x.frz id ds) v
 | .junk, v => fun _ => by simp [AV.frz, AV.ok]
 | .d x, v => fun hv => by simp only [AV.frz, AV.ok] at hv ⊢; exact frz_mono hv
 | .own e j xs, v => fun hv => by
  simp only [AV.frz]
  split
  ·simp only [AV.ok] at hv ⊢; exact frz_mono hv.1
  ·rename_i hj
   simp only [AV.ok] at hv ⊢
   obtain ⟨h1, u, n, h2, h3⟩ := hv
   exact ⟨frz_mono h1, u, n, by simpa [bset, hj] using h2, h3⟩
 | .ptr j off, v => fun hv => by
  simp only [AV.frz]
  split
  ·simp [AV.ok]
  ·rename_i hj
   simp only [AV.ok] at hv ⊢
   obtain ⟨b, h1, h2⟩ := hv
   exact ⟨b, by simpa [bset, hj] using h1, h2⟩
 | .msl e j off len, v => fun hv => by
  simp only [AV.frz]
  split
  ·rename_i hj
   subst hj
   split
   ·rename_i hc
    obtain ⟨rfl, hc, hc1⟩ := hc
    simp only [AV.ok]
    rcases ho with ⟨t, ho, hd⟩ | ⟨t, e, ho, hd⟩ | ⟨t, e, ho, hd, he1, hne⟩
    ·exact frz_msl h ho hd hc hv
    ·have hob := h.obs j
     rw [ho] at hob
     obtain ⟨u, h4, _⟩ := hob
     simp only [AV.ok] at hv
     obtain ⟨b, cap, h1, _⟩ := hv
     rw [h1] at h4
     cases h4
    ·obtain ⟨d, hd'⟩ := List.exists_mem_of_ne_nil _ hne
     exact absurd ((hd d hd').symm.trans (hc1 d hd')) he1
   ·rename_i hc1
    split
    ·rename_i hc
     obtain ⟨rfl, rfl, hc⟩ := hc
     simp only [AV.ok]
     exact frz_flat h ho hc hc1 hv
    ·simp [AV.ok]
  ·rename_i hj
   simp only [AV.ok] at hv ⊢
   obtain ⟨b, cap, h1, h2⟩ := hv
   exact ⟨b, cap, by simpa [bset, hj] using h1, h2⟩
 | .pv cs, v => fun hv => by
  simp only [AV.frz, AV.ok] at hv ⊢
  obtain ⟨b, o, vs, h1, h2, h3⟩ := hv
  exact ⟨b, o, vs, h1, h2.mono (fun _ _ _ hc hn => ⟨hc, fun h => hn (forb_frz h)⟩), frz_monos h3⟩
 | .agg cs, v => fun hv => by
  simp only [AV.frz, AV.ok] at hv ⊢
  obtain ⟨vs, h1, h2, h3⟩ := hv
  exact ⟨vs, h1, h2, frz_oks h ho cs _ h3⟩
 | .tup cs, v => fun hv => by
  simp only [AV.frz, AV.ok] at hv ⊢
  obtain ⟨vs, h1, h3⟩ := hv
  exact ⟨vs, h1, frz_oks h ho cs _ h3⟩
 | .fn f a b, v => fun hv => by
  simp only [AV.frz, AV.ok] at hv ⊢
  obtain ⟨fs, cs, h1, h2, h3⟩ := hv
  exact ⟨fs, cs, h1, frz_oks h ho a _ h2, frz_oks h ho b _ h3⟩
 | .gow e j n, v => fun hv => by
  simp only [AV.frz]
  split
  ·rename_i hj
   subst hj
   split
   ·rename_i hc
    obtain ⟨rfl, hc⟩ := hc
    simp only [AV.ok]
    rcases ho with ⟨t, ho, hd⟩ | ⟨t, e, ho, hd⟩ | ⟨t, e, ho, hd, he1, hne⟩
    ·have hob := h.obs j
     rw [ho] at hob
     obtain ⟨b, vs, h4, _⟩ := hob
     simp only [AV.ok] at hv
     obtain ⟨u, m, h1, _⟩ := hv
     rw [h4] at h1
     exact h1.elim
    ·exact frz_gow h ho hc hv
    ·have hob := h.obs j
     rw [ho] at hob
     obtain ⟨b, vs, h4, _⟩ := hob
     simp only [AV.ok] at hv
     obtain ⟨u, m, h1, _⟩ := hv
     rw [h4] at h1
     exact h1.elim
   ·simp [AV.ok]
  ·rename_i hj
   simp only [AV.ok] at hv ⊢
   obtain ⟨u, m, h1, h2⟩ := hv
   exact ⟨u, m, by simpa [bset, hj] using h1, h2⟩
 | .gptr j k off, v => fun hv => by
  simp only [AV.frz]
  split
  ·simp [AV.ok]
  ·rename_i hj
   simp only [AV.ok] at hv ⊢
   obtain ⟨u, m, b, off', h1, h2⟩ := hv
   exact ⟨u, m, b, off', by simpa [bset, hj] using h1, h2⟩
 | .ful e xs, v => fun hv => by
  simp only [AV.frz, AV.ok] at hv ⊢
  obtain ⟨a, h1, h2⟩ := hv
  exact ⟨a, h1, frz_mono h2⟩
 | .dp x, v => fun _ => by simp [AV.frz, AV.ok]
 | .mp j, v => fun hv => by
  simp only [AV.frz]
  split
  ·simp [AV.ok]
  ·rename_i hj
   simp only [AV.ok] at hv ⊢
   obtain ⟨b, h1, h2⟩ := hv
   exact ⟨b, by simpa [bset, hj] using h1, h2⟩
theorem frz_oks (h : Inv C β s w) (ho : FrzOk s id ds) : ∀ (xs : List AV) (vs : List Value), AV.oks β (C.forb β s) w xs vs ->
 AV.oks (bset β id .no) (C.forb (bset β id .no) (sfrz id ds s)) w (AV.frzs id ds xs) vs
 | [], vs => fun hv => by simpa [AV.frzs, AV.oks] using hv
 | x :: xs, vs => fun hv => by
  simp only [AV.frzs, AV.oks] at hv ⊢
  obtain ⟨v, r, h1, h2, h3⟩ := hv
  exact ⟨v, r, h1, frz_ok h ho x v h2, frz_oks h ho xs r h3⟩
end
theorem Inv.frz (h : Inv C β s w) (hid : C.k <= id) (ho : FrzOk s id ds) : Inv C (bset β id .no) (sfrz id ds s) w where
 size := h.size
 io := h.io
 keep := h.keep
 blks := h.blks
 ownd := fun b o ho => let ⟨i, _, h1⟩ := own_frz ho; h.ownd b o ⟨i, h1⟩
 ownB := fun i b hb => h.ownB i b (blockOf_frz hb).2
 pl := fun i hi => by
  have : i ≠ id := by omega
  simpa [bset, this] using h.pl i hi
 low := h.low
 obs := fun i => by
  rw [sat_sfrz]
  by_cases hi : i = id
  ·subst hi; simp [ObOk, bset]
  ·simp only [hi, if_false]
   have hob := h.obs i
   cases hs : sat s i with
   | dead => rw [hs] at hob; simpa [Ob.frz, ObOk, bset, hi] using hob
   | obj t' cs =>
    rw [hs] at hob
    obtain ⟨b, vs, h1, h2, h0, h3⟩ := hob
    exact ⟨b, vs, by simpa [bset, hi] using h1, h2, h0, h3.imp fun _ hx => frz_oks h ho _ _ hx⟩
   | tok t' e n =>
    rw [hs] at hob
    obtain ⟨u, h1, h2⟩ := hob
    exact ⟨u, by simpa [bset, hi] using h1, h2⟩
   | gro t' e n cs =>
    rw [hs] at hob
    obtain ⟨u, h1, hl, h2⟩ := hob
    refine ⟨u, by simpa [bset, hi] using h1, hl, ?_⟩
    rcases h2 with h2 | ⟨b, cap, vs, k1, k2, k3, k4, k5, k6, pre, rest, k7, k8⟩
    ·exact .inl h2
    ·exact .inr ⟨b, cap, vs, k1, k2, k3, k4, k5, k6, pre, rest, k7, frz_monos k8⟩
   | nst t' e n cs =>
    rw [hs] at hob
    obtain ⟨u, bs, h1, h0, h2⟩ := hob
    refine ⟨u, bs, by simpa [bset, hi] using h1, h0, ?_⟩
    rw [frzs_mapA]
    exact h2.imp (f := AV.frz id ds) (β := β) (O := C.forb β s) (w := w) (fun x v => told_frz (frz_ok h ho x v)) (fun _ _ => rfl) (fun _ _ _ => rfl)
   | prv e n cs =>
    rw [hs] at hob
    obtain ⟨u, bs, h1, h0, h2⟩ := hob
    refine ⟨u, bs, by simpa [bset, hi] using h1, h0, ?_⟩
    rw [frzs_mapA]
    exact h2.imp (f := AV.frz id ds) (β := β) (O := C.forb β s) (w := w) (fun x v => told_frz (frz_ok h ho x v)) (fun _ _ => rfl) (fun _ _ _ _ => rfl)
   | mp P k es =>
    rw [hs] at hob
    obtain ⟨b, h1, h2⟩ := hob
    exact ⟨b, by simpa [bset, hi] using h1, h2.imp rfl fun x v hx => frz_mono hx⟩
 inj := fun i j b hi hj => h.inj i j b (blockOf_frz hi).2 (blockOf_frz hj).2
end
theorem frzs_getElem? (id : Nat) (ds : List D) : ∀ (xs : List AV) (i : Nat), (AV.frzs id ds xs)[i]? = (xs[i]?).map (AV.frz id ds)
 | [], _ => by simp [AV.frzs]
 | x :: xs, 0 => by simp [AV.frzs]
 | x :: xs, i + 1 => by simp [AV.frzs, frzs_getElem? id ds xs i]
theorem frzs_length (id : Nat) (ds : List D) : ∀ (xs : List AV), (AV.frzs id ds xs).length = xs.length
 | [] => rfl
 | x :: xs => by simp [AV.frzs, frzs_length id ds xs]
theorem Weak.freezeF {k : Nat} {env : List AV} {s : Sto} (id : Nat) {ds : List D} (hid : k <= id) (ho : FrzOk s id ds) :
 Weak k env s (AV.frzs id ds env) (sfrz id ds s) := fun C β a w hC hst => by
 subst hC
 refine ⟨bset β id .no, hst.defers, hst.inv.frz hid ho, by rw [frzs_length, hst.len], fun i x hx => ?_⟩
 rw [frzs_getElem?] at hx
 cases hx2 : env[i]? with
 | none => rw [hx2] at hx; cases hx
 | some y => rw [hx2] at hx; cases hx; exact frz_ok hst.inv ho y _ (hst.env i y hx2)
def aD {α : Type} (f : α -> D) (x : α) : AV := .d (f x)
theorem map_aD {α : Type} (f : α -> D) (xs : List α) : xs.map (aD f) = (xs.map f).map .d := by rw [List.map_map]; rfl
theorem getD_aD {α : Type} [Inhabited α] {f : α -> D} {xs : List α} {i : Nat} (h : i < xs.length) : (xs.map (aD f)).getD i .junk = .d (f (xs.getD i default)) := by
 simp [List.getD_eq_getElem?_getD, List.getElem?_map, List.getElem?_eq_getElem h, aD]
theorem set_aD {α : Type} {f : α -> D} {xs : List α} {i : Nat} {v : α} (h : i < xs.length) : List.take i (xs.map (aD f)) ++ (AV.d (f v) :: List.drop (i + 1) (xs.map (aD f))) = (xs.set i v).map (aD f) := by
 rw [List.map_set, List.set_eq_take_append_cons_drop, if_pos (by simpa using h)]
 rfl
theorem EnvLe_rep {α : Type} {f : α -> D} {x : AV} {v : α} (h : AV.le x (.d (f v))) : ∀ n, EnvLe (List.replicate n [x]).flatten ((List.replicate n v).map (aD f))
 | 0 => trivial
 | n + 1 => by simp only [List.replicate_succ, List.flatten_cons, List.map_cons, List.cons_append, List.nil_append]; exact ⟨h, EnvLe_rep h n⟩
theorem EnvLe_refl_t {xs : List AV} : EnvLe xs xs ↔ True := ⟨fun _ => trivial, fun _ => .refl _⟩
theorem frz_junk {id : Nat} {ds : List D} : AV.frz id ds .junk = .junk := by simp only [AV.frz]
theorem frz_d {id : Nat} {ds : List D} {x : D} : AV.frz id ds (.d x) = .d x := by simp only [AV.frz]
theorem frz_own {id e j : Nat} {ds xs : List D} : AV.frz id ds (.own e j xs) = if j = id then .d (.sl e none xs) else .own e j xs := by simp only [AV.frz]
theorem frz_ptr {id j off : Nat} {ds : List D} : AV.frz id ds (.ptr j off) = if j = id then .junk else .ptr j off := by simp only [AV.frz]
theorem frz_mslne {id e j off len : Nat} {ds : List D} (h : ¬ j = id) : AV.frz id ds (.msl e j off len) = .msl e j off len := by simp only [AV.frz, if_neg h]
class Cel {α : Type} (f : α -> D) (e : outParam Nat) : Prop where
 len : ∀ x, (dcells (f x)).length = e
theorem frz_mslL {α : Type} {id n : Nat} {f : α -> D} [Cel f 1] {xs : List α} (h : xs.length = n) : AV.frz id (xs.map f) (.msl 1 id 0 n) = .d (slD 1 f xs) := by
 simp only [AV.frz, if_true, List.drop_zero]
 rw [if_pos ⟨trivial, by simp [h], by rintro d hd; obtain ⟨x, _, rfl⟩ := List.mem_map.1 hd; exact Cel.len x⟩, List.take_of_length_le (by simp [h])]
 rfl
theorem frz_mslF {α : Type} {id e n : Nat} {f : α -> D} [Cel f e] {xs : List α} (h : n = xs.length) : AV.frz id (xs.map f) (.msl e id 0 n) = .d (slD e f xs) := by
 subst h
 by_cases he : e = 1
 ·subst he; exact frz_mslL rfl
 ·simp only [AV.frz, if_true]
  rw [if_neg fun h => he h.1, if_pos ⟨trivial, by simp, by rintro d hd; obtain ⟨x, _, rfl⟩ := List.mem_map.1 hd; exact Cel.len x⟩]
  rfl
theorem frz_pv {id : Nat} {ds cs : List D} : AV.frz id ds (.pv cs) = .pv cs := by simp only [AV.frz]
theorem frz_agg {id : Nat} {ds : List D} {cs : List AV} : AV.frz id ds (.agg cs) = .agg (AV.frzs id ds cs) := by simp only [AV.frz]
theorem frz_tup {id : Nat} {ds : List D} {cs : List AV} : AV.frz id ds (.tup cs) = .tup (AV.frzs id ds cs) := by simp only [AV.frz]
theorem frz_fn {id f : Nat} {ds : List D} {a b : List AV} : AV.frz id ds (.fn f a b) = .fn f (AV.frzs id ds a) (AV.frzs id ds b) := by simp only [AV.frz]
theorem frzs_nil {id : Nat} {ds : List D} : AV.frzs id ds [] = [] := by simp only [AV.frzs]
theorem frzs_cons {id : Nat} {ds : List D} {x : AV} {xs : List AV} : AV.frzs id ds (x :: xs) = AV.frz id ds x :: AV.frzs id ds xs := by simp only [AV.frzs]
theorem frzs_aD {α : Type} {id : Nat} {ds : List D} {f : α -> D} : ∀ xs : List α, AV.frzs id ds (xs.map (aD f)) = xs.map (aD f)
 | [] => by simp only [List.map_nil, AV.frzs]
 | x :: xs => by simp only [List.map_cons, AV.frzs, frzs_aD xs, aD, AV.frz]
theorem mapd_aD {α : Type} {f : α -> D} {xs : List α} : (xs.map f).map AV.d = xs.map (aD f) := (map_aD f xs).symm
theorem rens_aD {α : Type} {ρ : Nat -> Option Nat} {f : α -> D} : ∀ xs : List α, AV.rens ρ (xs.map (aD f)) = xs.map (aD f)
 | [] => by simp only [List.map_nil, AV.rens]
 | x :: xs => by simp only [List.map_cons, AV.rens, rens_aD xs, aD, AV.ren]
theorem undo_aD {α : Type} {f : α -> D} : ∀ xs : List α, AV.undo (xs.map (aD f)) = some (xs.map f)
 | [] => rfl
 | x :: xs => by simp only [List.map_cons, aD, AV.undo, Option.map_eq_some_iff]; exact ⟨_, undo_aD xs, rfl⟩
theorem mk_aD {α : Type} {f : α -> D} {xs : List α} : AV.mk (xs.map (aD f)) = .d (.agg (xs.map f)) := by unfold AV.mk; rw [undo_aD]
def arD {α : Type} (f : α -> D) (xs : List α) : D := .agg (xs.map f)
theorem callR_freezeL {P : Program} {k0 f : Nat} {args env : List AV} {s : Sto} {d : Option Nat} {R : List AV -> Sto -> Prop} {α : Type} (id : Nat) {t : Nat} (g : α -> D) (xs : List α) (hid : k0 <= id)
 (ho : sat s id = .obj t (xs.map (aD g))) (hd : ∀ x, dcells (g x) = [g x]) (h : callR P k0 f (AV.frzs id (xs.map g) args) (AV.frzs id (xs.map g) env) (sfrz id (xs.map g) s) d R) :
 callR P k0 f args env s d R := fun C β a w vs hC hst hvs => by
 subst hC
 have ho' : sat s id = .obj t ((xs.map g).map .d) := by rw [ho, map_aD]
 have hd' : ∀ d ∈ xs.map g, dcells d = [d] := fun d h => by obtain ⟨x, _, rfl⟩ := List.mem_map.1 h; exact hd x
 refine h C (bset β id .no) a w vs rfl ⟨hst.defers, hst.inv.frz hid (.inl ⟨t, ho', hd'⟩), by rw [frzs_length, hst.len], fun i x hx => ?_⟩ (frz_oks hst.inv (.inl ⟨t, ho', hd'⟩) _ _ hvs)
 rw [frzs_getElem?] at hx
 cases hx2 : env[i]? with
 | none => rw [hx2] at hx; cases hx
 | some y => rw [hx2] at hx; cases hx; exact frz_ok hst.inv (.inl ⟨t, ho', hd'⟩) y _ (hst.env i y hx2)
attribute [go_sem] frz_junk frz_d frz_own frz_ptr frz_mslne frz_mslL frz_pv frz_agg frz_tup frz_fn frzs_nil frzs_cons frzs_aD mapd_aD rens_aD mk_aD Ob.frz sfrz getD_aD set_aD EnvLe_refl_t List.flatten_cons List.flatten_nil arD Nat.mul_one List.length_set List.length_replicate
def groL {α : Type} (f : α -> D) (xs : List α) : List D := (xs.map f).flatMap dcells
theorem groL_nil {α : Type} {f : α -> D} : groL f [] = [] := rfl
theorem groL_cons {α : Type} {f : α -> D} {x : α} {xs : List α} : groL f (x :: xs) = dcells (f x) ++ groL f xs := by simp [groL]
theorem Inv.toGro {C : Ctx} {β : Beta} {s : Sto} {w : World} (h : Inv C β s w) {id t e : Nat} (ho : sat s id = .tok t e 0) :
 Inv C β (sset s id (.gro t e 0 [])) w /\ C.forb β (sset s id (.gro t e 0 [])) = C.forb β s := by
 have hown : ∀ b o, own β (sset s id (.gro t e 0 [])) b o ↔ own β s b o := fun b o => by
  unfold own
  refine exists_congr fun i => ?_
  rw [sat_sset]
  by_cases hi : i = id
  ·subst hi; rw [ho]; simp
  ·rw [if_neg hi]
 have hblk : ∀ i b, blockOf β (sset s id (.gro t e 0 [])) i b ↔ blockOf β s i b := fun i b => by
  unfold blockOf
  rw [sat_sset]
  by_cases hi : i = id
  ·subst hi; rw [ho]; simp
  ·rw [if_neg hi]
 have hf : C.forb β (sset s id (.gro t e 0 [])) = C.forb β s := by funext b o; exact propext (or_congr Iff.rfl (hown b o))
 refine ⟨⟨h.size, h.io, h.keep, h.blks, fun b o ho => h.ownd b o ((hown b o).1 ho), fun id b hb => h.ownB id b ((hblk id b).1 hb), h.pl, h.low, fun i => ?_,
  fun i j b hi hj => h.inj i j b ((hblk i b).1 hi) ((hblk j b).1 hj)⟩, hf⟩
 rw [hf, sat_sset]
 have h1 := h.obs i
 by_cases hi : i = id
 ·subst hi
  rw [ho] at h1
  obtain ⟨u, h2, h3⟩ := h1
  simp only [if_true]
  refine ⟨u, h2, by simp, ?_⟩
  rcases h3 with h3 | ⟨b, cap, vs, k1, k2, k3, k4, k5, k6⟩
  ·exact .inl h3
  ·exact .inr ⟨b, cap, vs, k1, k2, k3, k4, k5, k6, [], vs.toList, rfl, by simp [D.oks]⟩
 ·rw [if_neg hi]; exact h1
theorem FrzOk.gro {α : Type} {s : Sto} {id t e : Nat} (f : α -> D) (xs : List α) (ho : sat s id = .gro t e xs.length (groL f xs)) (he : ∀ x, (dcells (f x)).length = e) : FrzOk s id (xs.map f) :=
 .inr (.inl ⟨t, e, by rw [List.length_map]; exact ho, fun d hd => by obtain ⟨x, _, rfl⟩ := List.mem_map.1 hd; exact he x⟩)
theorem Weak.freezeG {α : Type} {k : Nat} {env : List AV} {s : Sto} (id : Nat) {t e : Nat} (f : α -> D) (xs : List α) (hid : k <= id) (ho : sat s id = .gro t e xs.length (groL f xs)) (he : ∀ x, (dcells (f x)).length = e) :
 Weak k env s (AV.frzs id (xs.map f) env) (sfrz id (xs.map f) s) := Weak.freezeF id hid (.gro f xs ho he)
theorem frz_gowL {α : Type} {id e : Nat} {f : α -> D} (he : ∀ x, (dcells (f x)).length = e) {xs : List α} : AV.frz id (xs.map f) (.gow e id xs.length) = .d (slD e f xs) := by
 simp only [AV.frz, if_true]
 rw [if_pos ⟨by simp, fun d hd => by obtain ⟨x, _, rfl⟩ := List.mem_map.1 hd; exact he x⟩]
 rfl
theorem frz_gowne {id e j n : Nat} {ds : List D} (h : ¬ j = id) : AV.frz id ds (.gow e j n) = .gow e j n := by simp only [AV.frz, if_neg h]
theorem frz_gptr {id j k off : Nat} {ds : List D} : AV.frz id ds (.gptr j k off) = if j = id then .junk else .gptr j k off := by simp only [AV.frz]
def Done (k : Nat) (x : AV) (s : Sto) (y : AV) (t : Sto) : Prop := ∀ (C : Ctx) (β : Beta) (w : World) (v : Value), C.k = k -> Inv C β s w -> AV.ok β (C.forb β s) w x v ->
 ∃ β', Inv C β' t w /\ AV.ok β' (C.forb β' t) w y v
theorem Done.frz {k : Nat} {x : AV} {s : Sto} (id : Nat) {ds : List D} (hid : k <= id) (ho : FrzOk s id ds) : Done k x s (x.frz id ds) (sfrz id ds s) := fun C β w v hC h3 h4 => by
 subst hC
 exact ⟨_, h3.frz hid ho, frz_ok h3 ho _ _ h4⟩
def moveρ (i j : Nat) : Nat -> Option Nat := fun q => if q = i then some j else if q = j then none else some q
class Cel1 {α : Type} (f : α -> D) : Prop where
 one : ∀ x, dcells (f x) = [f x]
instance : Cel iD 1 := ⟨fun _ => rfl⟩
instance : Cel bD 1 := ⟨fun _ => rfl⟩
instance {k : IntKind} : Cel (kD k) 1 := ⟨fun _ => rfl⟩
instance : Cel sD 1 := ⟨fun _ => rfl⟩
instance {α : Type} {e : Nat} {f : α -> D} : Cel (slD e f) 1 := ⟨fun _ => rfl⟩
instance : Cel1 iD := ⟨fun _ => rfl⟩
instance : Cel1 bD := ⟨fun _ => rfl⟩
instance {k : IntKind} : Cel1 (kD k) := ⟨fun _ => rfl⟩
instance : Cel1 sD := ⟨fun _ => rfl⟩
instance {α : Type} {e : Nat} {f : α -> D} : Cel1 (slD e f) := ⟨fun _ => rfl⟩
section
variable {α : Type} [Inhabited α] {f : α -> D} {e : Nat} {xs ys : List α} {i k n : Nat} {y : α} {d : D} {ds : List D}
omit [Inhabited α] in
theorem gro_flat : List.flatMap dcells (List.map f ys) = groL f ys := rfl
omit [Inhabited α] in
theorem frz_gowC [Cel f e] {id : Nat} : AV.frz id (xs.map f) (.gow e id xs.length) = .d (slD e f xs) := frz_gowL Cel.len
omit [Inhabited α] in
theorem Weak.freezeC [Cel f e] {k0 t : Nat} {env : List AV} {s : Sto} (id : Nat) (f' : α -> D) (hf : f' = f) (xs : List α) (hid : k0 <= id) (ho : sat s id = .gro t e xs.length (groL f xs)) :
 Weak k0 env s (AV.frzs id (xs.map f') env) (sfrz id (xs.map f') s) := by subst hf; exact Weak.freezeG id f' xs hid ho Cel.len
end
attribute [go_sem] gro_flat groL_cons groL_nil
attribute [go_sem] frz_gowne frz_gptr
theorem cells_gow {e id n : Nat} : AV.cells (.gow e id n) = some [.gow e id n] := rfl
theorem cells_gptr {id k off : Nat} : AV.cells (.gptr id k off) = some [.gptr id k off] := rfl
theorem undo_gow {e id n : Nat} {xs : List AV} : AV.undo (.gow e id n :: xs) = none := rfl
theorem undo_gptr {id k off : Nat} {xs : List AV} : AV.undo (.gptr id k off :: xs) = none := rfl
attribute [go_sem] cells_gow cells_gptr undo_gow undo_gptr moveρ
theorem ACalls.doneP {P : Program} {f : Nat} {args : List AV} {s : Sto} {k : Nat} {z : AV} (h : ACalls P f args s k fun x s' => ∃ y t, Done k x s' y t /\ AV.le y z) : ACalls P f args s k fun x _ => x = z := fun C vs h1 h2 h3 h4 =>
 (h C vs h1 h2 h3 h4).mono fun _ w' ⟨v, _, β', _, e1, e2, e3, _, t, e4, e5⟩ => let ⟨β2, h5, h6⟩ := e4 C β' w' v h2 e2 e3; ⟨v, z, β2, t, e1, h5, e5 _ _ _ _ h6, rfl⟩
theorem MFn.pureD {P : Program} {f : Nat} {mc : MCode} {n : Nat} {rs : List MRes} (h : MFn P f mc n rs) {args : List D} {r : D}
 (hm : MWp P 0 mc (finQ rs fun x s' => ∃ y t, Done 0 x s' y t /\ AV.le y (.d r)) (args.map .d ++ List.replicate (n - (args.map AV.d).length) .junk) []) : PFun P f args r := ACalls.doneP (h.calls hm)
theorem gow_of_own' {C : Ctx} {β : Beta} {O : Own} {s : Sto} {w : World} (h : Inv C β s w) {id t e e' : Nat} {cs : List D} (ho : sat s id = .gro t e' 0 cs) {v : Value} (hv : AV.ok β O w (.own e id []) v) :
 AV.ok β O w (.gow e id 0) v := by
 have h1 := h.obs id
 rw [ho] at h1
 obtain ⟨u, h2, _, h3⟩ := h1
 simp only [AV.ok] at hv ⊢
 obtain ⟨_, u', n, h4, _, h6⟩ := hv
 rw [h2] at h4
 obtain ⟨rfl, rfl⟩ := h4
 have := h6 rfl
 subst this
 refine ⟨v, 0, by rw [h2]; exact ⟨rfl, rfl⟩, Nat.le_refl _, fun _ => rfl, ?_⟩
 rcases h3 with ⟨h3, _⟩ | ⟨b, cap, vs, k1, k2, k3, k4, k5, _⟩
 ·exact .inl ⟨none, h3, trivial⟩
 ·exact .inr ⟨b, cap, k1, k4, k5⟩
theorem Weak.toGro {k : Nat} {env : List AV} {s : Sto} {id t e : Nat} (ho : sat s id = .tok t e 0) : Weak k env s env (sset s id (.gro t e 0 [])) := fun _ β _ _ _ hst => by
 obtain ⟨h1, hf⟩ := hst.inv.toGro ho
 exact ⟨β, hst.defers, h1, hst.len, fun j x hj => by rw [hf]; exact hst.env j x hj⟩
theorem Weak.cellG {k : Nat} {env : List AV} {s : Sto} {o j id t t' e e' : Nat} {cs : List AV} {ds : List D} (ho : sat s o = .obj t' cs) (hj : cs[j]? = some (.own e id [])) (hi : sat s id = .gro t e' 0 ds) :
 Weak k env s env (sset s o (.obj t' (cs.set j (.gow e id 0)))) := fun _ β _ _ _ hst =>
 ⟨β, hst.retell ho fun _ hv => oks_set hj (fun _ hv => gow_of_own' hst.inv hi hv) hv⟩
theorem Weak.thawCellG {k : Nat} {env : List AV} {s : Sto} (o j id t e : Nat) {e0 t' : Nat} {cs : List AV} (hd : sat s id = .dead) (ho : sat s o = .obj t' cs) (hj : cs[j]? = some (.d (.sl e0 (some true) []))) :
 Weak k env s env (sset (sset s id (.gro t e 0 [])) o (.obj t' (cs.set j (.gow e id 0)))) := by
 have hoi : o ≠ id := by rintro rfl; rw [hd] at ho; cases ho
 have hjl : j < cs.length := (List.getElem?_eq_some_iff.1 hj).1
 refine (Weak.thawCell o j id t e hd ho hj).trans ((Weak.toGro (id := id) (t := t) (e := e) (by rw [sat_sset, if_neg (Ne.symm hoi), sat_sset, if_pos rfl])).trans
  ((Weak.cellG (o := o) (j := j) (id := id) (t := t) (t' := t') (e := e) (e' := e) (cs := cs.set j (.own e id [])) (ds := []) (by rw [sat_sset, if_neg hoi, sat_sset, if_pos rfl])
   (by rw [List.getElem?_set, if_pos rfl, if_pos hjl]) (by rw [sat_sset, if_pos rfl])).trans (Weak.sto fun q => ?_)))
 rw [List.set_set]
 simp only [sat_sset]
 by_cases h1 : q = o
 ·simp [h1]
 ·by_cases h2 : q = id <;> simp [h1, h2]
section
variable {α : Type} {f : α -> D} {e : Nat} {xs : List α}
theorem frz_gowN [Cel f e] {id n : Nat} (h : n = xs.length) : AV.frz id (xs.map f) (.gow e id n) = .d (slD e f xs) := by subst h; exact frz_gowC
theorem Weak.freezeN [Cel f e] {k0 t n : Nat} {env : List AV} {s : Sto} {ds : List D} (id : Nat) (f' : α -> D) (hf : f' = f) (xs : List α) (hid : k0 <= id) (ho : sat s id = .gro t e n ds) (hn : n = xs.length) (hs : ds = groL f xs) :
 Weak k0 env s (AV.frzs id (xs.map f') env) (sfrz id (xs.map f') s) := by subst hn; subst hs; exact Weak.freezeC id f' hf xs hid ho
end
attribute [go_sem] frz_gowN
theorem flatc {d : D} {ds : List D} : List.flatMap dcells (d :: ds) = dcells d ++ List.flatMap dcells ds := List.flatMap_cons
theorem flatn : List.flatMap dcells [] = [] := rfl
attribute [go_sem] flatc flatn
def Okk {α : Type} (t : Prop) (x : Option α) (P : α -> Prop) : Prop := (∀ a, x = some a -> P a) /\ (t -> ∃ a, x = some a)
theorem Okk.some {α : Type} {t : Prop} {a : α} {P : α -> Prop} (h : P a) : Okk t (Option.some a) P := ⟨fun b hb => by cases hb; exact h, fun _ => ⟨a, rfl⟩⟩
theorem Okk.bind {α β : Type} {t : Prop} {x : Option α} {f : α -> Option β} {P : α -> Prop} {Q : β -> Prop} (h : Okk t x P) (hf : ∀ a, P a -> Okk t (f a) Q) : Okk t (x.bind f) Q :=
 ⟨fun b hb => let ⟨a, h1, h2⟩ := Option.bind_eq_some_iff.1 hb; (hf a (h.1 a h1)).1 b h2, fun ht => by
  obtain ⟨a, ha⟩ := h.2 ht
  obtain ⟨b, hb⟩ := (hf a (h.1 a ha)).2 ht
  exact ⟨b, by rw [ha, Option.bind_some, hb]⟩⟩
theorem Okk.ite {α : Type} {t : Prop} {c : Bool} {x y : Option α} {P : α -> Prop} (h1 : c = true -> Okk t x P) (h2 : c = false -> Okk t y P) : Okk t (if c = true then x else y) P := by
 cases c with
 | true => simpa using h1 rfl
 | false => simpa using h2 rfl
theorem Okk.weak {α : Type} {t t' : Prop} {x : Option α} {P : α -> Prop} (h : Okk t x P) (ht : t' -> t) : Okk t' x P := ⟨h.1, fun hx => h.2 (ht hx)⟩
theorem Okk.inr {σ β : Type} {t : Prop} {x : Option β} {P : σ ⊕ β -> Prop} (h : Okk t x fun b => P (.inr b)) : Okk t (x.map Sum.inr) P :=
 ⟨fun a ha => by
  cases x with
  | none => cases ha
  | some b => cases ha; exact h.1 b rfl, fun ht => let ⟨a, ha⟩ := h.2 ht; ⟨.inr a, by rw [ha]; rfl⟩⟩
theorem Okk.eq {α : Type} {x : Option α} {a : α} (h : Okk True x (· = a)) : x = Option.some a := by obtain ⟨b, hb⟩ := h.2 trivial; rw [hb, h.1 b hb]
theorem Okk.of {α : Type} {t : Prop} {x : Option α} {a : α} {P : α -> Prop} (h : x = Option.some a) (hp : P a) : Okk t x P := by rw [h]; exact .some hp
theorem Okk.get {α : Type} {x : Option α} {P : α -> Prop} (h : Okk True x P) : ∃ a, x = Option.some a /\ P a := by obtain ⟨b, hb⟩ := h.2 trivial; exact ⟨b, hb, h.1 b hb⟩
theorem Okk.amb {α β : Type} {t : Prop} {xs : List α} {a b : Option β} {P : β -> Prop} (h : Okk t b P) (he : xs = [] -> a = b) : Okk t (ambO xs a b) P := by
 unfold ambO
 split
 ·rename_i hx; rw [if_pos (he hx)]; exact h
 ·exact h
def Rnd {σ β : Type} (inv : σ -> Prop) (μ : σ -> Nat) (Q : β -> Prop) (m : Nat) : σ ⊕ β -> Prop
 | .inl s' => inv s' /\ μ s' < m
 | .inr b => Q b
theorem Okk.loop {σ β : Type} {t : Prop} {f : σ -> Option (σ ⊕ β)} {Q : β -> Prop} (inv : σ -> Prop) (μ : σ -> Nat) {s : σ} (h0 : inv s) (h : ∀ s, inv s -> Okk t (f s) (Rnd inv μ Q (μ s))) : Okk t (loopC f s) Q := by
 constructor
 ·intro b hb
  obtain ⟨n, hn⟩ := loopC_some hb
  clear hb
  induction n generalizing s with
  | zero => exact hn.elim
  | succ n ih =>
   rcases hn with hn | ⟨s', hs, hn⟩
   ·exact (h s h0).1 _ hn
   ·exact ih ((h s h0).1 _ hs).1 hn
 ·intro ht
  have key : ∀ n s, μ s = n -> inv s -> ∃ b, loopC f s = Option.some b := by
   intro n
   induction n using Nat.strongRecOn with
   | _ n ih =>
    intro s hn hs
    obtain ⟨r, hr⟩ := (h s hs).2 ht
    have := (h s hs).1 r hr
    cases r with
    | inl s' => obtain ⟨b, hb⟩ := ih (μ s') (hn ▸ this.2) s' rfl this.1; exact ⟨b, by rw [loopC_inl hr, hb]⟩
    | inr b => exact ⟨b, loopC_inr hr⟩
  exact key _ s rfl h0
theorem Okk.lim {α : Type} {t : Prop} {f : Nat -> Option α} {P : α -> Prop} (m : Nat) (h : ∀ n, Okk (m <= n) (f n) P) : Okk t (limO f) P := by
 constructor
 ·intro a ha
  obtain ⟨n, hn⟩ := limO_some ha
  exact (h n).1 a hn
 ·intro _
  obtain ⟨a, ha⟩ := (h m).2 (Nat.le_refl _)
  have hx : ∃ a n, f n = Option.some a := ⟨a, m, ha⟩
  unfold limO
  rw [dif_pos hx]
  exact ⟨_, rfl⟩
def nzD {α : Type} (e : Nat) (f : α -> D) (xs : List α) : D := .sl e (some xs.isEmpty) (xs.map f)
section
variable {α : Type} {e id : Nat} {f : α -> D} {xs : List α} {O : Own} {w : World}
theorem slK_nzD : slK (.d (nzD e f xs)) = some (e, xs.map f) := rfl
theorem nlK_nzD : nlK (.d (nzD e f xs)) = some xs.isEmpty := rfl
theorem cells_nzD : AV.cells (.d (nzD e f xs)) = some [.d (nzD e f xs)] := rfl
theorem acells_nzD : AV.acells (.d (nzD e f xs)) = none := rfl
theorem dcells_nzD : dcells (nzD e f xs) = [nzD e f xs] := rfl
theorem DL.nz (h : 0 < xs.length) : DL (slD e f xs) (nzD e f xs) := fun O w v hv => by
 simp only [slD, nzD, D.ok] at hv ⊢
 obtain ⟨a, cap, h1, h2, _, h4⟩ := hv
 refine ⟨a, cap, h1, h2, ?_, h4⟩
 have hne : xs ≠ [] := List.length_pos_iff.1 h
 have he : xs.isEmpty = false := by simpa using hne
 rcases h4 with h4 | ⟨b, o, rfl, _⟩
 ·exact absurd (List.map_eq_nil_iff.1 h4) hne
 ·simp [NlOk, he]
theorem DL.of_nz : DL (nzD e f xs) (slD e f xs) := DL.forget
theorem DL.nz_nil {e' : Nat} : DL (.sl e' (some true) []) (nzD e f []) := fun O w v hv => by
 simp only [nzD, D.ok, List.map_nil] at hv ⊢
 obtain ⟨a, cap, h1, h2, h3, h4⟩ := hv
 exact ⟨a, cap, h1, h2, h3, .inl trivial⟩
theorem le_nz_t (h : 0 < xs.length) : AV.le (.d (slD e f xs)) (.d (nzD e f xs)) ↔ True := ⟨fun _ => trivial, fun _ => AV.le_d (DL.nz h)⟩
theorem le_nzown_t (h : 0 < xs.length) : AV.le (.own e id (xs.map f)) (.d (nzD e f xs)) ↔ True := ⟨fun _ => trivial, fun _ => AV.le_ownD fun O w v hv => DL.nz h O w v hv⟩
theorem le_nznil_t {e' : Nat} : AV.le (.d (.sl e' (some true) [])) (.d (nzD e f [])) ↔ True := ⟨fun _ => trivial, fun _ => AV.le_d DL.nz_nil⟩
end
theorem row_nz {α : Type} {e e' : Nat} {f : α -> D} {O : Own} {w : World} {b : Nat} : ∀ {o : Nat} {xs : List (List α)}, D.row O w b o e (xs.map (nzD e' f)) -> D.row O w b o e (xs.map (slD e' f))
 | _, [], h => h
 | o, x :: xs, h => by
  simp only [List.map_cons, nzD, slD, D.row] at h ⊢
  obtain ⟨⟨v, h1, h2, h3⟩, h4⟩ := h
  exact ⟨⟨v, h1, h2, DL.of_nz _ _ _ h3⟩, row_nz h4⟩
theorem DL.sl_nz {α : Type} {e e' : Nat} {f : α -> D} {nl : Option Bool} {xs : List (List α)} : DL (.sl e nl (xs.map (nzD e' f))) (.sl e none (xs.map (slD e' f))) := fun O w v hv => by
 simp only [D.ok, List.length_map, List.map_eq_nil_iff] at hv ⊢
 obtain ⟨a, cap, h1, h2, _, h4⟩ := hv
 refine ⟨a, cap, h1, h2, trivial, h4.imp (fun h => h) ?_⟩
 rintro ⟨b, o, h5, h6⟩
 exact ⟨b, o, h5, row_nz h6⟩
instance {α : Type} {e : Nat} {f : α -> D} : Cel (nzD e f) 1 := ⟨fun _ => rfl⟩
instance {α : Type} {e : Nat} {f : α -> D} : Cel1 (nzD e f) := ⟨fun _ => rfl⟩
theorem EnvLe.set : ∀ {xs : List AV} {i : Nat} {a b : AV}, AV.le a b -> EnvLe (xs.set i a) (xs.set i b)
 | [], _, _, _, _ => trivial
 | _ :: xs, 0, _, _, h => ⟨h, .refl xs⟩
 | x :: _, i + 1, _, _, h => ⟨AV.le_refl x, EnvLe.set h⟩
theorem lob_set {α : Type} {f : α -> D} {xs : List α} {i : Nat} {a : AV} {v : α} (h : i < xs.length) (hle : AV.le a (.d (f v))) :
 EnvLe (List.take i (xs.map (aD f)) ++ (a :: List.drop (i + 1) (xs.map (aD f)))) ((xs.set i v).map (aD f)) := by
 have e1 : List.take i (xs.map (aD f)) ++ (a :: List.drop (i + 1) (xs.map (aD f))) = (xs.map (aD f)).set i a := by
  rw [List.set_eq_take_append_cons_drop, if_pos (by simpa using h)]
 rw [e1, List.map_set]
 exact EnvLe.set hle
attribute [go_sem] slK_nzD nlK_nzD cells_nzD acells_nzD dcells_nzD le_nznil_t
theorem take_mapR {α β : Type} {f : α -> β} {l : List α} {n : Nat} : List.take n (List.map f l) = List.map f (List.take n l) := List.map_take.symm
theorem drop_mapR {α β : Type} {f : α -> β} {l : List α} {n : Nat} : List.drop n (List.map f l) = List.map f (List.drop n l) := List.map_drop.symm
theorem take_all {α : Type} {l : List α} {n : Nat} (h : l.length <= n) : List.take n l = l := List.take_of_length_le h
theorem drop_all {α : Type} {l : List α} {n : Nat} (h : l.length <= n) : List.drop n l = [] := List.drop_of_length_le h
theorem stoN : StoLe [] [] := trivial
theorem stoC {i : Nat} {x y : Ob} {r r' : Sto} (h : ObLe x y) (hr : StoLe r r') : StoLe ((i, x) :: r) ((i, y) :: r') := ⟨rfl, h, hr⟩
theorem lob_set' {α : Type} {f : α -> D} {xs : List α} {i : Nat} {a : AV} {v : α} (h : i < xs.length) (hle : AV.le a (.d (f v))) :
 EnvLe (List.map (aD f) (List.take i xs) ++ [a] ++ List.map (aD f) (List.drop (i + 1) xs)) ((xs.set i v).map (aD f)) := by
 have := lob_set (f := f) (xs := xs) (i := i) (a := a) (v := v) h hle
 rw [List.append_assoc]
 simpa only [List.map_take, List.map_drop, List.cons_append, List.nil_append] using this
theorem enN : EnvLe [] [] := trivial
theorem enC {x y : AV} {xs ys : List AV} (h : AV.le x y) (h' : EnvLe xs ys) : EnvLe (x :: xs) (y :: ys) := ⟨h, h'⟩
theorem dsN : DsLe [] [] := trivial
theorem dsC {x y : D} {xs ys : List D} (h : D.le x y) (h' : DsLe xs ys) : DsLe (x :: xs) (y :: ys) := ⟨h, h'⟩
theorem dle_nil {e e' : Nat} {nl : Option Bool} : D.le (.sl e nl []) (.sl e' none []) := fun O w vs h => by
 simp only [D.cel] at h ⊢
 obtain ⟨v, h1, h2⟩ := h
 exact ⟨v, h1, DL.nil _ _ _ h2⟩
theorem dle_forget {e : Nat} {nl : Option Bool} {xs : List D} : D.le (.sl e nl xs) (.sl e none xs) := fun O w vs h => by
 simp only [D.cel] at h ⊢
 obtain ⟨v, h1, h2⟩ := h
 exact ⟨v, h1, DL.forget _ _ _ h2⟩
theorem dle_agg {xs ys : List D} (h : CLe xs ys) : D.le (.agg xs) (.agg ys) := fun O w vs hv => by
 simp only [D.cel] at hv ⊢
 exact h.oks hv
theorem le_ofnz_t' {α : Type} {e : Nat} {f : α -> D} {xs : List α} : AV.le (.d (nzD e f xs)) (.d (.sl e none (xs.map f))) ↔ True := ⟨fun _ => trivial, fun _ => AV.le_d DL.of_nz⟩
theorem le_slnz_t' {α : Type} {e e' : Nat} {f : α -> D} {xs : List (List α)} : AV.le (.d (.sl e none (xs.map (nzD e' f)))) (.d (.sl e none (xs.map (slD e' f)))) ↔ True := ⟨fun _ => trivial, fun _ => AV.le_d DL.sl_nz⟩
attribute [go_sem] le_ofnz_t' le_slnz_t'
theorem le_aD {α : Type} {x : AV} {f : α -> D} {v : α} : AV.le x (aD f v) = AV.le x (.d (f v)) := (rfl)
theorem set_aDm {α : Type} {f : α -> D} {xs : List α} {i : Nat} {v : α} (h : i < xs.length) : List.map (aD f) (List.take i xs) ++ (AV.d (f v) :: List.map (aD f) (List.drop (i + 1) xs)) = (xs.set i v).map (aD f) := by
 rw [List.map_take, List.map_drop]; exact set_aD h
theorem set_aDm' {α : Type} {f : α -> D} {xs : List α} {i : Nat} {v : α} (h : i < xs.length) : List.map (aD f) (List.take i xs) ++ [AV.d (f v)] ++ List.map (aD f) (List.drop (i + 1) xs) = (xs.set i v).map (aD f) := by
 rw [List.append_assoc]; exact set_aDm h
attribute [go_sem] le_aD set_aDm set_aDm'
theorem stp {p q : Prop} (hq : q) (h : p = q := by first | ((conv => lhs; simp (config := { maxSteps := 1000000 }) (disch := omega) only [go_sem, take_mapR, drop_mapR, take_all, drop_all, List.drop_zero, List.append_nil, List.nil_append, Nat.reduceAdd, Nat.reduceSub, Nat.reduceLeDiff, Nat.reduceEqDiff, Nat.reduceLT, Int.reduceToNat, reduceIte, reduceCtorEq]) <;> rfl) | rfl) : p := h ▸ hq
theorem stpc {c p q : Prop} (hc : c) (hq : q) (h : p = q := by first | ((conv => lhs; simp (config := { maxSteps := 1000000 }) (disch := omega) only [go_sem, take_mapR, drop_mapR, take_all, drop_all, List.drop_zero, List.append_nil, List.nil_append, Nat.reduceAdd, Nat.reduceSub, Nat.reduceLeDiff, Nat.reduceEqDiff, Nat.reduceLT, Int.reduceToNat, reduceIte, reduceCtorEq, hc]) <;> rfl) | rfl) : p := h ▸ hq
theorem don {p : Prop} (h : p := by first | (simp only [go_sem, slD, List.map_append, List.map_take, List.map_drop, List.append_assoc, Nat.reduceAdd, Nat.reduceSub, Nat.reduceLeDiff, Nat.reduceEqDiff, Nat.reduceLT, reduceIte, reduceCtorEq]; done) | ((try simp only [go_sem, slD, List.map_append, List.map_take, List.map_drop, List.append_assoc, Nat.reduceAdd, Nat.reduceSub, Nat.reduceLeDiff, Nat.reduceEqDiff, Nat.reduceLT, reduceIte, reduceCtorEq]; repeat' (first | exact AV.le_refl _ | refine And.intro ?_ ?_ | refine AV.le_tup ?_ | refine AV.le_aggD ?_ | refine AV.le_agg ?_ | refine AV.le_d (DL.agg ?_) | exact enN | exact stoN | refine enC ?_ ?_ | refine stoC ?_ ?_ | exact dsN | refine dsC ?_ ?_ | exact EnvLe_rep (AV.le_d DL.nil) _ |  exact D.le_refl _ | exact dle_nil | exact dle_forget | refine dle_agg ?_ | (simp only [go_sem, slD, List.map_append, List.map_take, List.map_drop, List.append_assoc, Nat.reduceAdd, Nat.reduceSub, Nat.reduceLeDiff, Nat.reduceEqDiff, Nat.reduceLT, reduceIte, reduceCtorEq]; done) | refine DsLe.append (DsLe.refl _) ?_ | refine AV.le_ownown ?_ | refine AV.le_sl ?_ | omega)); done)) : p := h
section
variable {P : Program} {k0 f : Nat} {args env : List AV} {s : Sto} {d : Option Nat} {R : List AV -> Sto -> Prop} {F : List (List Nat × List Nat) -> List AV -> Sto -> Prop} {ms : List MOper} {acc : List (List Nat × List Nat)} {foot : List Nat}
end
theorem wk {k : Nat} {env env' : List AV} {s s' : Sto} (h : EnvLe env env' := by first | (simp only [go_sem, slD, List.map_append, List.map_take, List.map_drop, List.append_assoc, Nat.reduceAdd, Nat.reduceSub, Nat.reduceLeDiff, Nat.reduceEqDiff, Nat.reduceLT, reduceIte, reduceCtorEq]; done) | ((try simp only [go_sem, slD, List.map_append, List.map_take, List.map_drop, List.append_assoc, Nat.reduceAdd, Nat.reduceSub, Nat.reduceLeDiff, Nat.reduceEqDiff, Nat.reduceLT, reduceIte, reduceCtorEq]; repeat' (first | exact AV.le_refl _ | refine And.intro ?_ ?_ | refine AV.le_tup ?_ | refine AV.le_aggD ?_ | refine AV.le_agg ?_ | refine AV.le_d (DL.agg ?_) | exact enN | exact stoN | refine enC ?_ ?_ | refine stoC ?_ ?_ | exact dsN | refine dsC ?_ ?_ | exact EnvLe_rep (AV.le_d DL.nil) _ |  exact D.le_refl _ | exact dle_nil | exact dle_forget | refine dle_agg ?_ | (simp only [go_sem, slD, List.map_append, List.map_take, List.map_drop, List.append_assoc, Nat.reduceAdd, Nat.reduceSub, Nat.reduceLeDiff, Nat.reduceEqDiff, Nat.reduceLT, reduceIte, reduceCtorEq]; done) | refine DsLe.append (DsLe.refl _) ?_ | refine AV.le_ownown ?_ | refine AV.le_sl ?_ | omega)); done)) (hs : StoLe s s' := by first | (simp only [go_sem, slD, List.map_append, List.map_take, List.map_drop, List.append_assoc, Nat.reduceAdd, Nat.reduceSub, Nat.reduceLeDiff, Nat.reduceEqDiff, Nat.reduceLT, reduceIte, reduceCtorEq]; done) | ((try simp only [go_sem, slD, List.map_append, List.map_take, List.map_drop, List.append_assoc, Nat.reduceAdd, Nat.reduceSub, Nat.reduceLeDiff, Nat.reduceEqDiff, Nat.reduceLT, reduceIte, reduceCtorEq]; repeat' (first | exact AV.le_refl _ | refine And.intro ?_ ?_ | refine AV.le_tup ?_ | refine AV.le_aggD ?_ | refine AV.le_agg ?_ | refine AV.le_d (DL.agg ?_) | exact enN | exact stoN | refine enC ?_ ?_ | refine stoC ?_ ?_ | exact dsN | refine dsC ?_ ?_ | exact EnvLe_rep (AV.le_d DL.nil) _ |  exact D.le_refl _ | exact dle_nil | exact dle_forget | refine dle_agg ?_ | (simp only [go_sem, slD, List.map_append, List.map_take, List.map_drop, List.append_assoc, Nat.reduceAdd, Nat.reduceSub, Nat.reduceLeDiff, Nat.reduceEqDiff, Nat.reduceLT, reduceIte, reduceCtorEq]; done) | refine DsLe.append (DsLe.refl _) ?_ | refine AV.le_ownown ?_ | refine AV.le_sl ?_ | omega)); done)) : Weak k env s env' s' := Weak.leS h hs
theorem Done.frzL {α : Type} {k : Nat} {x : AV} {s : Sto} (id : Nat) {t : Nat} (f : α -> D) [Cel1 f] (xs : List α) (hid : k <= id) (ho : sat s id = .obj t (xs.map (aD f))) :
 Done k x s (x.frz id (xs.map f)) (sfrz id (xs.map f) s) :=
 Done.frz id hid (.inl ⟨t, by rw [ho, map_aD], fun d h => by obtain ⟨x, _, rfl⟩ := List.mem_map.1 h; exact Cel1.one x⟩)
theorem frd {p : Prop} (h : p := by (try simp (disch := first | omega | (simp only [List.length_append, List.length_cons, List.length_nil, List.length_set, List.length_map, List.length_replicate, Nat.reduceAdd] <;> fail) | fail) only [rendel, AV.ren, AV.rens, moveρ, killρ, frz_tup, frz_agg, frzs_cons, frzs_nil, frz_mslL, frz_mslF, frz_mslne, frz_gowN, frz_gowne, frz_d, frz_junk, frz_own, frz_fn, frz_pv, frz_ptr, frz_gptr]); first | (simp only [go_sem, slD, List.map_append, List.map_take, List.map_drop, List.append_assoc, Nat.reduceAdd, Nat.reduceSub, Nat.reduceLeDiff, Nat.reduceEqDiff, Nat.reduceLT, reduceIte, reduceCtorEq]; done) | ((try simp only [go_sem, slD, List.map_append, List.map_take, List.map_drop, List.append_assoc, Nat.reduceAdd, Nat.reduceSub, Nat.reduceLeDiff, Nat.reduceEqDiff, Nat.reduceLT, reduceIte, reduceCtorEq]; repeat' (first | exact AV.le_refl _ | refine And.intro ?_ ?_ | refine AV.le_tup ?_ | refine AV.le_aggD ?_ | refine AV.le_agg ?_ | refine AV.le_d (DL.agg ?_) | exact enN | exact stoN | refine enC ?_ ?_ | refine stoC ?_ ?_ | exact dsN | refine dsC ?_ ?_ | exact EnvLe_rep (AV.le_d DL.nil) _ |  exact D.le_refl _ | exact dle_nil | exact dle_forget | refine dle_agg ?_ | (simp only [go_sem, slD, List.map_append, List.map_take, List.map_drop, List.append_assoc, Nat.reduceAdd, Nat.reduceSub, Nat.reduceLeDiff, Nat.reduceEqDiff, Nat.reduceLT, reduceIte, reduceCtorEq]; done) | refine DsLe.append (DsLe.refl _) ?_ | refine AV.le_ownown ?_ | refine AV.le_sl ?_ | omega)); done)) : p := h
theorem stpf {p q : Prop} (hq : q) (h : p = q := by first | ((conv => lhs; simp (disch := first | omega | (simp only [List.length_append, List.length_cons, List.length_nil, List.length_set, List.length_map, List.length_replicate, Nat.reduceAdd] <;> fail) | fail) only [frz_tup, frz_agg, frzs_cons, frzs_nil, frz_mslL, frz_mslF, frz_mslne, frz_gowN, frz_gowne, frz_d, frz_junk, frz_own, frz_fn, frz_pv, frz_ptr, frz_gptr]) <;> rfl) | rfl) : p := h ▸ hq
section
variable {α : Type} {f : α -> D} {e : Nat}
theorem Weak.fz [Cel f e] {k0 t n : Nat} {env : List AV} {s : Sto} {ds : List D} (id : Nat) (f' : α -> D) (hf : f' = f) (xs : List α) (ho : sat s id = .gro t e n ds := by exact rfl) (hid : k0 <= id := by omega) (hn : n = xs.length := by simp)
 (hs : ds = groL f xs := by first | rfl | simp only [go_sem, slD, List.map_append, List.map_take, List.map_drop, List.append_assoc, Nat.reduceAdd, Nat.reduceSub, Nat.reduceLeDiff, Nat.reduceEqDiff, Nat.reduceLT, reduceIte, reduceCtorEq]) : Weak k0 env s (AV.frzs id (xs.map f') env) (sfrz id (xs.map f') s) := Weak.freezeN id f' hf xs hid ho hn hs
end
def Iter (P : Program) (gf : Nat) (caps : List AV) (els : List (List D)) : Prop :=
 AV.rens (fun _ => none) caps = caps /\ (∀ args w, (callFunc gf args).run P w = .ok (.enter gf args) w) /\
 ∀ (O : Own) (W : World) (lb : Array Value), AV.oks (fun _ => .no) O W caps lb.toList -> (∀ b o, O b o -> b < W.heap.size) ->
  ∀ (l : Nat) (J Jx : Nat -> Own -> World -> Prop),
   (∀ i X A B row, J i X A -> A.grownBy B row -> (∀ r, row = some r -> W.heap.size <= r /\ ∃ o : Obj, A.heap[r]? = some o /\ Odd o) -> J i X B) ->
   (∀ i X A B row, Jx i X A -> A.grownBy B row -> (∀ r, row = some r -> W.heap.size <= r /\ ∃ o : Obj, A.heap[r]? = some o /\ Odd o) -> Jx i X B) ->
   (∀ i X W1 (vs : Array Value), i < els.length -> J i X W1 -> AV.oks (fun _ => .no) X W1 ((els.getD i []).map .d) vs.toList -> YieldAt Fence.wide 0 P l vs W1 fun e W' => ∃ X',
    ((e = .returned (.bool true) /\ J (i + 1) X' W') ∨ (e = .returned (.bool false) /\ Jx (i + 1) X' W')) /\ (∀ b o, X' b o -> b < W'.heap.size) /\
    ∀ b o v, W1.cell? ⟨b, o, none⟩ = some v -> ¬ X b o -> W'.cell? ⟨b, o, none⟩ = some v /\ ¬ X' b o) ->
   J 0 O W ->
   CallsIn Fence.wide 0 P gf (#[.func (.yield l) #[] #[]] ++ lb) W fun e W' => (∃ v, e = .returned v) /\ ((∃ X, J els.length X W') ∨ ∃ m X, m < els.length /\ Jx (m + 1) X W')
def keepρ (K : Nat) : Nat -> Option Nat := fun i => if i < K then some i else none
theorem oks_dβ {β β' : Beta} {O : Own} {w : World} : ∀ {xs : List D} {vs : List Value}, AV.oks β O w (xs.map .d) vs -> AV.oks β' O w (xs.map .d) vs
 | [], vs => fun h => by simpa [AV.oks] using h
 | x :: xs, vs => fun h => by
  simp only [List.map_cons, AV.oks, AV.ok] at h ⊢
  obtain ⟨v, r, h1, h2, h3⟩ := h
  exact ⟨v, r, h1, h2, oks_dβ h3⟩
theorem Inv.stays {C : Ctx} {β : Beta} {s : Sto} {w : World} (h : Inv C β s w) : ∀ b o v, C.w.cell? ⟨b, o, none⟩ = some v -> ¬ C.forb C.β C.s b o -> w.cell? ⟨b, o, none⟩ = some v /\ ¬ C.forb β s b o := by
 intro b o v hc hn
 refine ⟨h.keep b o v hc fun h2 => hn (.inr h2), fun h2 => ?_⟩
 rcases h2 with h2 | h2
 ·exact hn (.inl h2)
 ·rcases h.ownd b o h2 with h3 | h3
  ·exact hn (.inr h3)
  ·have := cell_lt hc; omega
def EnvOk (C : Ctx) (β : Beta) (env : List AV) (s : Sto) (a : Act) (w : World) : Prop := ∀ i x, env[i]? = some x -> AV.ok β (C.forb β s) w x (a.tmps.getD i undef)
theorem EnvOk.later {C : Ctx} {β : Beta} {env : List AV} {s : Sto} {a : Act} {w : World} (hfix : AV.rens (keepρ C.k) env = env) (h : Inv C β s w) (he : EnvOk C C.β env C.s a C.w) : EnvOk C β env s a w := by
 intro i x hx
 have h1 : AV.ok (fun id => if id < C.k then C.β id else .no) (C.forb C.β C.s) C.w (x.ren (keepρ C.k)) (a.tmps.getD i undef) :=
  AV.ok_ren (fun i j hij => by
   unfold keepρ at hij
   split at hij
   ·rename_i hlt; cases hij; simp [hlt]
   ·cases hij) x _ (he i x hx)
 have h2 : x.ren (keepρ C.k) = x := by
  have h3 : (AV.rens (keepρ C.k) env)[i]? = (env[i]?).map (AV.ren (keepρ C.k)) := rens_getElem? _ _ _
  rw [hfix, hx] at h3
  simpa using h3.symm
 rw [h2] at h1
 refine AV.ok_mono h.stays (fun id => ?_) _ _ h1
 by_cases hlt : id < C.k
 ·simp only [hlt, if_true]; exact h.pl id hlt
 ·simp only [hlt, if_false]; trivial
theorem EnvOk.nocell {C : Ctx} {β : Beta} {env : List AV} {s : Sto} {a : Act} {w w' : World} {row : Option Nat} (h : EnvOk C β env s a w) (hg : w.grownBy w' row)
 (hr : ∀ r, row = some r -> ∃ o : Obj, w.heap[r]? = some o /\ Odd o) : EnvOk C β env s a w' :=
 fun i x hx => AV.ok_mono (fun _ _ _ hc hn => ⟨cell_kept hc hg (oddC hr), hn⟩) (fun _ => .refl _) _ _ (h i x hx)
theorem Marks.now {C : Ctx} {β : Beta} {s : Sto} {w : World} {ds : List Deferred} (h : Marks C ds) (hi : Inv C β s w) :
 ∃ Ds : List Nat, ds = Ds.map markOf /\ Ds.Nodup /\ ∀ D ∈ Ds, C.dom <= D /\ D < C.w.heap.size /\ w.heap[D]? = some (.deferred (some [])) :=
 let ⟨_, Ds, h1, h2, h3⟩ := h
 ⟨Ds, h1, h2, fun D hD => let ⟨h4, h5, h6, h7⟩ := h3 D hD; ⟨h4, h5, (hi.blks D h5 h7).trans h6⟩⟩
theorem Marks.mk' {C C1 : Ctx} {β : Beta} {s : Sto} {w : World} (hi : Inv C β s w) (hnm : C1.nm = false) (h1 : C1.β = β) (h2 : C1.s = s) (h3 : C1.w = w) {Ds : List Nat} (hn : Ds.Nodup)
 (hD : ∀ D ∈ Ds, C1.dom <= D /\ w.heap[D]? = some (.deferred (some []))) : Marks C1 (Ds.map markOf) :=
 ⟨(fun h => by rw [hnm] at h; cases h), Ds, rfl, hn, fun D hd => let ⟨h4, h5⟩ := hD D hd; ⟨h4, by rw [h3]; exact (Array.getElem?_eq_some_iff.1 h5).1, by rw [h3]; exact h5, fun id hb => by
  rw [h1, h2] at hb
  exact hi.isCells hb h5 ⟨rfl, rfl⟩⟩⟩
theorem St.puts {C : Ctx} {β : Beta} {s : Sto} {w : World} : ∀ {ps : List Nat} {xs : List D} {vs : List Value} {env : List AV} {a : Act}, St C β env s a w -> AV.oks β (C.forb β s) w (xs.map .d) vs ->
 St C β (putAll env (ps.zip (xs.map .d))) s { a with tmps := (ps.zip vs).foldl (fun t (p, v) => t.setIfInBounds p v) a.tmps } w
 | [], xs, vs, env, a => fun h _ => by simpa [putAll] using h
 | p :: ps, [], vs, env, a => fun h hv => by
  simp only [List.map_nil, AV.oks] at hv
  subst hv
  simpa [putAll] using h
 | p :: ps, x :: xs, vs, env, a => fun h hv => by
  simp only [List.map_cons, AV.oks] at hv
  obtain ⟨v, r, rfl, h1, h2⟩ := hv
  have := St.puts (ps := ps) (a := a.put (some p) v) (h.put h1 (some p)) h2
  simpa [putAll, Act.put] using this
section
variable {P : Program} {k : Nat} {Q : Post} {env : List AV} {s : Sto}
def rngQ {ι : Type} (K : Nat) (env : List AV) (S : ι -> Sto) (next : ι -> Prop) (Q : Post) : Post
 | .normal, env', s' => ∃ i', next i' /\ ∃ env'', Weak K env' s' env'' (S i')
 | .ret, env', s' => ∃ s'', (∃ env'', Weak K env' s' env'' s'') /\ Q .ret env s''
 | .exit id, env', s' => ∃ s'', (∃ env'', Weak K env' s' env'' s'') /\ Q (.exit id) env s''
 | _, _, _ => False
theorem m_rng {g : Operand} {ps : List Nat} {x y : MCode} {gf : Nat} {caps : List AV} {els : List (List D)} {ι : Type} (K : Nat) (hK : k <= K) (hfix : AV.rens (keepρ K) env = env)
 (hflat : x.flat = true /\ y.flat = true) (hg : ev env g = .fn gf [] caps) (it : Iter P gf caps els) (hps : ∀ i, i < els.length -> (els.getD i []).length = ps.length)
 (S : ι -> Sto) (pos : ι -> Nat) (inv : ι -> Prop) (i0 : ι) (h0 : inv i0) (hp0 : pos i0 = 0) (hw : Weak k env s env (S i0))
 (round : ∀ i, inv i -> pos i < els.length -> MWp P K x (thenQ (fun env1 s1 => MWp P K y (rngQ K env S (fun i' => inv i' /\ pos i' = pos i + 1) Q) env1 s1) fun _ _ _ => False)
  (putAll env (ps.zip ((els.getD (pos i) []).map .d))) (S i))
 (done : ∀ i, inv i -> pos i = els.length -> Q .normal env (S i)) : MWp P k (.rng g ps x y) Q env s := fun C hC hf c hc β a w hst => by
 have hpl : C.plain := by
  rcases hf with h | h
  ·simp [MCode.flat] at h
  ·exact h
 obtain ⟨hro, hnm, hdom⟩ := hpl
 obtain ⟨ps', ca, cb, rfl, hps', hx, hy⟩ := mini_rng hc
 obtain ⟨β0, hst0⟩ := hw C β a w hC hst
 have hF : C.fence = Fence.wide := by unfold Ctx.fence; rw [hro]; rfl
 have hgv := hst0.ev g
 rw [hg] at hgv
 simp only [AV.ok, AV.oks] at hgv
 obtain ⟨fs, lb, hgv, hfs, hlb⟩ := hgv
 have hfs : fs = #[] := Array.ext' (by simpa using hfs)
 subst hfs
 obtain ⟨hids, henter, hit⟩ := it
 have hbnd : ∀ {β : Beta} {s : Sto} {w : World}, Inv C β s w -> ∀ b o, C.forb β s b o -> b < w.heap.size := fun h b o hb => by
  rcases hb with hb | hb
  ·exact Nat.lt_of_lt_of_le (h.low b o hb).1 h.size
  ·exact h.own_lt hb
 -- the context of the loop
 let Cw : Ctx := { C with β := β0, s := S i0, w := w, k := C.k }
 have hCw : ∀ {β s w'}, Inv Cw β s w' -> Inv C β s w' := fun h => hst0.inv.back h (Nat.le_refl _)
 have hforb : ∀ (C' : Ctx) β s, C'.O = C.O -> C'.forb β s = C.forb β s := fun C' β s h => by unfold Ctx.forb; rw [h]
 refine wpIn_rangeFunc fun fn hfn => ?_
 have hfr : C.fence.round = none := hro
 rw [hfr]
 obtain ⟨rec, hrec⟩ : ∃ rec : LoopState -> Option Code -> Loop, rec = fun st pe => { state := st, pending := pe, fn, tmps := a.tmps, params := ps', assign := ca, body := cb, defers := w.heap.size } := ⟨_, rfl⟩
 obtain ⟨W1, hW1⟩ : ∃ W1, (w.alloc (.deferred (some []))).alloc (.loop (rec .ready none)) = W1 := ⟨_, rfl⟩
 have hg1 : w.grownBy W1 none := by
  rw [<- hW1]
  exact ⟨rfl, rfl, rfl, by simp; omega, fun j hj _ => (Go.RowKit.Below.heap_alloc _ _ _ (by simp; omega)).trans (Go.RowKit.Below.heap_alloc w _ j hj)⟩
 have hL1 : W1.heap[w.heap.size + 1]? = some (.loop (rec .ready none)) := by
  rw [<- hW1]; have := World.alloc_heap_new (w.alloc (.deferred (some []))) (.loop (rec .ready none)); rwa [World.size_alloc] at this
 have hK1 : W1.heap[w.heap.size]? = some (.deferred (some [])) := by
  rw [<- hW1]; exact (Go.RowKit.Below.heap_alloc _ _ _ (by simp)).trans (World.alloc_heap_new w _)
 have hcall := hit (C.forb β0 (S i0)) W1 lb (by
  have := AV.oks_ren (β' := fun _ => .no) (ρ := fun _ => none) (fun i j h => by cases h) _ _ hlb
  rw [hids] at this
  exact AV.oks_mono (fun b o v hc hn => ⟨by rw [World.cell?_of_block (hg1.block b (cell_lt hc) (by simp))]; exact hc, hn⟩) (fun _ => .refl _) _ _ this)
  (fun b o h => Nat.lt_of_lt_of_le (hbnd hst0.inv b o h) hg1.size)
 -- what holds between two rounds
 let Jn : Nat -> Own -> World -> Prop := fun n X W => (∃ j, inv j /\ pos j = n /\ ∃ β', X = C.forb β' (S j) /\ Inv Cw β' (S j) W /\ EnvOk C β' env (S j) a W /\ ∀ b o v, W1.cell? ⟨b, o, none⟩ = some v -> ¬ C.forb β0 (S i0) b o -> W.cell? ⟨b, o, none⟩ = some v /\ ¬ X b o) /\
  W.heap[w.heap.size + 1]? = some (.loop (rec .ready none)) /\ W.heap[w.heap.size]? = some (.deferred (some []))
 let Jx : Nat -> Own -> World -> Prop := fun _ _ W => ∃ jump s'' β', ((jump = .ret /\ Q .ret env s'') ∨ ∃ id, jump = .exit id /\ Q (.exit id) env s'') /\ Inv Cw β' s'' W /\ EnvOk C β' env s'' a W /\
  W.heap[w.heap.size + 1]? = some (.loop (rec .done (some jump))) /\ W.heap[w.heap.size]? = some (.deferred (some []))
 have hsz1 : W1.heap.size = w.heap.size + 2 := by rw [<- hW1]; simp
 have gK : ∀ {A B : World} {row : Option Nat} {i : Nat} {o : Obj}, A.grownBy B row -> (∀ r, row = some r -> W1.heap.size <= r) -> i < w.heap.size + 2 -> A.heap[i]? = some o -> B.heap[i]? = some o :=
  fun hg hr hi h => (hg.block _ (Array.getElem?_eq_some_iff.1 h).1 (fun e => by have := hr _ e.symm; omega)).trans h
 have hJn : ∀ i X A B row, Jn i X A -> A.grownBy B row -> (∀ r, row = some r -> W1.heap.size <= r /\ ∃ o : Obj, A.heap[r]? = some o /\ Odd o) -> Jn i X B := fun i X A B row ⟨⟨j, h1, h2, β', h0, h3, h4, h7⟩, h5, h6⟩ hg hr =>
  ⟨⟨j, h1, h2, β', h0, h3.nocell hg (fun r e => ⟨by have := (hr r e).1; show w.heap.size <= r; omega, (hr r e).2⟩), h4.nocell hg (fun r e => (hr r e).2), fun b o v k1 k2 => ⟨cell_kept (h7 b o v k1 k2).1 hg (oddC fun r e => (hr r e).2), (h7 b o v k1 k2).2⟩⟩,
   gK hg (fun r e => (hr r e).1) (by omega) h5, gK hg (fun r e => (hr r e).1) (by omega) h6⟩
 have hJx : ∀ i X A B row, Jx i X A -> A.grownBy B row -> (∀ r, row = some r -> W1.heap.size <= r /\ ∃ o : Obj, A.heap[r]? = some o /\ Odd o) -> Jx i X B := fun i X A B row ⟨jump, s'', β', h1, h3, h4, h5, h6⟩ hg hr =>
  ⟨jump, s'', β', h1, h3.nocell hg (fun r e => ⟨by have := (hr r e).1; show w.heap.size <= r; omega, (hr r e).2⟩), h4.nocell hg (fun r e => (hr r e).2), gK hg (fun r e => (hr r e).1) (by omega) h5, gK hg (fun r e => (hr r e).1) (by omega) h6⟩
 -- a block of the loop's own turns
 have own2 : ∀ {A : World} {i : Nat} {o : Obj} (o' : Obj), w.heap.size <= i -> A.heap[i]? = some o -> Odd o -> ∀ r, some i = some r -> Cw.w.heap.size <= r /\ ∃ o : Obj, A.heap[r]? = some o /\ Odd o :=
  fun {A i o} _ h1 h2 h3 r e => by cases e; exact ⟨h1, o, h2, h3⟩
 refine ⟨w.heap.size + 1, [markOf w.heap.size], W1, { target := .fn (.func gf) lb, args := #[.func (.yield (w.heap.size + 1)) #[] #[]] }, W1, gf,
  #[.func (.yield (w.heap.size + 1)) #[] #[]] ++ lb, W1, ?_, ?_, ?_, ?_, fun h => by simp [Ctx.fence] at h, ?_⟩
 ·rw [<- hW1, hrec]; exact run_enterLoop_outer _ _ _ _ _
 ·simp only [resolve, hgv]
  simp [go_sem]
 ·exact fun _ _ => trivial
 ·simp [invoke, go_sem, henter]
 ·rw [hF]
  refine (hcall (w.heap.size + 1) Jn Jx hJn hJx ?_
   ⟨⟨i0, h0, hp0, β0, rfl, (hst0.inv.here).nocell hg1 (fun r e => by cases e), EnvOk.nocell (fun i x hx => hst0.env i x hx) hg1 (fun r e => by cases e), fun b o v k1 k2 => ⟨k1, k2⟩⟩, hL1, hK1⟩).mono ?_
  ·-- a round
   rintro i X W ev hi ⟨⟨j, hj, hpj, β1, rfl, hinv, henv, hkp⟩, hl, hk⟩ hevs
   have hyv := run_yield (P := P) (args := ev) hl (by
    have h1 := AV.oks_length hevs
    have h2 := hps i hi
    rw [hrec]
    show ev.size = ps'.size
    rw [List.length_map, h2, <- hps'] at h1
    simpa using h1)
   rw [hrec] at hyv
   refine ⟨fn, _, ca, cb, hyv, roundIn_of_wpIn trivial ?_⟩
   let C2 : Ctx := { C with β := β1, s := S j, w := W, k := K, ro := some (w.heap.size + 1), dom := 0, nm := false }
   have hinvC : Inv C β1 (S j) W := hCw hinv
   have hinv2 : Inv C2 β1 (S j) W := (hinvC.here (K := K)).ro _ _
   have hst2 : St C2 β1 env (S j) { tmps := a.tmps, defers := [] } W := ⟨.nil, hinv2, hst0.len, henv⟩
   have henc : AV.oks β1 (C2.forb β1 (S j)) W (((els.getD i []).map .d)) ev.toList := by
    refine oks_dβ (β := fun _ => .no) ?_
    rw [hforb C2 β1 (S j) rfl]
    exact hevs
   have hst3 := St.puts (ps := ps) hst2 henc
   have hi' := hpj ▸ hi
   have hrnd := round j hj hi'
   rw [hpj] at hrnd
   have hass := hrnd C2 rfl (.inl hflat.1) ca hx β1 _ W hst3
   have hfold : (ps.zip ev.toList).foldl (fun t (p, v) => t.setIfInBounds p v) a.tmps = (ps'.zip ev).foldl (fun t (p, v) => t.setIfInBounds p v) a.tmps := by
    rw [<- hps', <- Array.foldl_toList, Array.toList_zip]
   show ca.wpIn C2.fence 0 P _ { tmps := (ps'.zip ev).foldl (fun t (p, v) => t.setIfInBounds p v) a.tmps, defers := [] } W
   rw [<- hfold]
   refine wpIn_mono hass fun e a3 W3 he => ?_
   obtain ⟨C3, hx3, β3, env3, s3, hst3', hq⟩ := he
   cases e with
   | normal =>
    -- behind the assignments the round begins
    have hq : MWp P K y (rngQ K env S (fun i' => inv i' /\ pos i' = pos j + 1) Q) env3 s3 := by rw [hpj]; exact hq
    have hI2 : Inv C2 β3 s3 W3 := hx3.inv _ _ _ hst3'.inv
    have keep3 : ∀ {i : Nat} {o : Obj}, W.heap[i]? = some o -> Odd o -> W3.heap[i]? = some o := fun {i o} h h' =>
     (hI2.blks i (Array.getElem?_eq_some_iff.1 h).1 fun id hb => hinvC.isCells hb h h').trans h
    have hl3 := keep3 hl ⟨rfl, rfl⟩
    have hk3 := keep3 hk ⟨rfl, rfl⟩
    have hIw3 : Inv Cw β3 s3 W3 := hinv.back (K := K) (hI2.ro' (C := { Cw with β := β1, s := S j, w := W, k := K }) ) (by show C.k <= K; omega)
    refine ⟨_, run_beginRound hl3 (by rw [hrec]), ?_⟩
    have hg4 := grownBy_putObj' W3 (w.heap.size + 1) (.loop { rec .ready none with state := .busy })
    have hr4 := own2 (A := W3) (.loop { rec .ready none with state := .busy }) (Nat.le_succ _) hl3 ⟨rfl, rfl⟩
    generalize hW4 : W3.putObj (w.heap.size + 1) (.loop { rec .ready none with state := .busy }) = W4 at hg4 ⊢
    have hl4 : W4.heap[w.heap.size + 1]? = some (.loop { rec .ready none with state := .busy }) := by rw [<- hW4]; exact World.putObj_heap_same (Array.getElem?_eq_some_iff.1 hl3).1
    have hk4 : W4.heap[w.heap.size]? = some (.deferred (some [])) := by rw [<- hW4]; exact (World.putObj_heap_other (by omega)).trans hk3
    have hIw4 : Inv Cw β3 s3 W4 := hIw3.nocell hg4 hr4
    let C4 : Ctx := { C with β := β3, s := s3, w := W4, k := K, ro := some (w.heap.size + 1), dom := 0, nm := false }
    have hI4 : Inv C4 β3 s3 W4 := ((hCw hIw4).here (K := K)).ro _ _
    have hmk4 : Marks C4 a3.defers := by
     obtain ⟨Ds, h1, h2, h3⟩ := hst3'.defers.now hst3'.inv
     rw [h1]
     refine Marks.mk' hIw4 rfl rfl rfl rfl h2 fun D hD => ⟨Nat.zero_le _, ?_⟩
     have h4 := (h3 D hD).2.2
     rw [<- hW4]
     refine (World.putObj_heap_other fun e => ?_).trans h4
     rw [e, hl3] at h4; cases h4
    have hst4 : St C4 β3 env3 s3 a3 W4 := ⟨hmk4, hI4, hst3'.len, fun t x hx => by
     have h1 := hst3'.env t x hx
     rw [hx3.forb] at h1
     exact AV.ok_mono (fun b o v hc hn => ⟨cell_kept hc hg4 (oddC fun r e => (hr4 r e).2), hn⟩) (fun _ => .refl _) _ _ h1⟩
    have henv3 : EnvOk C2 β3 env s3 a W3 := EnvOk.later (C := C2) hfix hI2 henv
    have henv4 : EnvOk C β3 env s3 a W4 := EnvOk.nocell (C := C) henv3 hg4 fun r e => (hr4 r e).2
    have hbody := hq C4 rfl (.inl hflat.2) cb hy β3 _ W4 hst4
    refine wpIn_mono hbody fun e a5 W5 he => ?_
    obtain ⟨C5, hx5, β5, env5, s5, hst5, hq5⟩ := he
    have fin : ∀ (jump : Option Code) (β6 : Beta) (s6 : Sto), Inv C4 β6 s6 W5 -> ∃ W6, (Instr.endRound (w.heap.size + 1) jump).run P W5 = .ok (.bool jump.isNone) W6 /\
     W6.heap[w.heap.size + 1]? = some (.loop (rec (if jump.isNone then .ready else .done) jump)) /\ W6.heap[w.heap.size]? = some (.deferred (some [])) /\ Inv Cw β6 s6 W6 /\ EnvOk C β6 env s6 a W6 /\
     (∀ b o, C.forb β6 s6 b o -> b < W6.heap.size) /\ ∀ b o v, W.cell? ⟨b, o, none⟩ = some v -> ¬ C.forb β1 (S j) b o -> W6.cell? ⟨b, o, none⟩ = some v /\ ¬ C.forb β6 s6 b o := fun jump β6 s6 hI6 => by
     have keep5 : ∀ {i : Nat} {o : Obj}, W4.heap[i]? = some o -> Odd o -> W5.heap[i]? = some o := fun {i o} h h' =>
      (hI6.blks i (Array.getElem?_eq_some_iff.1 h).1 fun id hb => hIw4.isCells hb h h').trans h
     have hl5 := keep5 hl4 ⟨rfl, rfl⟩
     have hk5 := keep5 hk4 ⟨rfl, rfl⟩
     have hrun := run_endRound (P := P) jump hl5
     have hg6 := grownBy_putObj' W5 (w.heap.size + 1) (.loop (rec (if jump.isNone then .ready else .done) jump))
     have hr6 := own2 (A := W5) (.loop (rec (if jump.isNone then .ready else .done) jump)) (Nat.le_succ _) hl5 ⟨rfl, rfl⟩
     have hIw5 : Inv Cw β6 s6 W5 := hIw4.back (K := K) (hI6.ro' (C := { Cw with β := β3, s := s3, w := W4, k := K })) (by show C.k <= K; omega)
     refine ⟨_, by rw [hrec] at hrun ⊢; exact hrun, World.putObj_heap_same (Array.getElem?_eq_some_iff.1 hl5).1, (World.putObj_heap_other (by omega)).trans hk5, hIw5.nocell hg6 hr6, ?_, hbnd (hCw (hIw5.nocell hg6 hr6)), ?_⟩
     ·have h5 : EnvOk C4 β6 env s6 a W5 := EnvOk.later (C := C4) hfix hI6 henv4
      exact EnvOk.nocell (C := C) h5 hg6 fun r e => (hr6 r e).2
     ·intro b o v h3 k1
      have k2 := hI2.stays b o v h3 k1
      have k3 : W4.cell? ⟨b, o, none⟩ = some v := cell_kept k2.1 hg4 (oddC fun r e => (hr4 r e).2)
      have k4 := hI6.stays b o v k3 k2.2
      exact ⟨cell_kept k4.1 hg6 (oddC fun r e => (hr6 r e).2), k4.2⟩
    have hk5 : C5.k = K := hx5.k
    cases e with
    | normal =>
     obtain ⟨j', ⟨hj', hpj'⟩, _, hwk⟩ := hq5
     obtain ⟨β6, hst6⟩ := hwk C5 β5 a5 W5 hk5 hst5
     obtain ⟨W6, hr, h1, h2, h3, h4, h6, h5⟩ := fin none β6 (S j') (hx5.inv _ _ _ hst6.inv)
     exact ⟨_, _, hr, _, .inl ⟨rfl, ⟨⟨j', hj', by rw [hpj', hpj], β6, rfl, h3, h4, fun b o v k1 k2 => h5 b o v (hkp b o v k1 k2).1 (hkp b o v k1 k2).2⟩, h1, h2⟩⟩, h6, h5⟩
    | ret =>
     obtain ⟨s'', ⟨_, hwk⟩, hQ⟩ := hq5
     obtain ⟨β6, hst6⟩ := hwk C5 β5 a5 W5 hk5 hst5
     obtain ⟨W6, hr, h1, h2, h3, h4, h6, h5⟩ := fin (some .ret) β6 s'' (hx5.inv _ _ _ hst6.inv)
     exact ⟨_, _, hr, _, .inr ⟨rfl, .ret, s'', β6, .inl ⟨rfl, hQ⟩, h3, h4, h1, h2⟩, h6, h5⟩
    | exit id =>
     obtain ⟨s'', ⟨_, hwk⟩, hQ⟩ := hq5
     obtain ⟨β6, hst6⟩ := hwk C5 β5 a5 W5 hk5 hst5
     obtain ⟨W6, hr, h1, h2, h3, h4, h6, h5⟩ := fin (some (.exit id)) β6 s'' (hx5.inv _ _ _ hst6.inv)
     exact ⟨_, _, hr, _, .inr ⟨rfl, .exit id, s'', β6, .inr ⟨id, rfl, hQ⟩, h3, h4, h1, h2⟩, h6, h5⟩
    | goto l => exact hq5.elim
    | panic ch => exact hq5.elim
    | outgrown => exact hq5.elim
   | exit id => exact hq.elim
   | goto l => exact hq.elim
   | ret => exact hq.elim
   | panic ch => exact hq.elim
   | outgrown => exact hq.elim
  ·-- behind the iterator
   have out : ∀ (β' : Beta) (s' : Sto) (W2 : World) (st : LoopState) (pe : Option Code), st ≠ .busy -> Inv Cw β' s' W2 -> EnvOk C β' env s' a W2 -> W2.heap[w.heap.size + 1]? = some (.loop (rec st pe)) -> W2.heap[w.heap.size]? = some (.deferred (some [])) ->
    ∃ W3, (Instr.endLoop (w.heap.size + 1)).run P W2 = .ok pe W3 /\ ∃ C', Ext C C' /\ St C' β' env s' { a with defers := [markOf w.heap.size] ++ a.defers } W3 := fun β' s' W2 st pe hst hI hE hl hk => by
    have hrun := run_endLoop (P := P) hl (by rw [hrec]; exact hst)
    have hg3 := grownBy_putObj' W2 (w.heap.size + 1) (.loop { rec st pe with state := .exhausted })
    have hr3 := own2 (A := W2) (.loop { rec st pe with state := .exhausted }) (Nat.le_succ _) hl ⟨rfl, rfl⟩
    have hI3 : Inv Cw β' s' (W2.putObj (w.heap.size + 1) (.loop { rec st pe with state := .exhausted })) := hI.nocell hg3 hr3
    have hE3 : EnvOk C β' env s' a (W2.putObj (w.heap.size + 1) (.loop { rec st pe with state := .exhausted })) := EnvOk.nocell (C := C) hE hg3 fun r e => (hr3 r e).2
    have hk3 : (W2.putObj (w.heap.size + 1) (.loop { rec st pe with state := .exhausted })).heap[w.heap.size]? = some (.deferred (some [])) := (World.putObj_heap_other (by omega)).trans hk
    have hpe : (rec st pe).pending = pe := by rw [hrec]
    generalize W2.putObj (w.heap.size + 1) (.loop { rec st pe with state := .exhausted }) = W3 at hrun hI3 hE3 hk3
    rw [hpe] at hrun
    refine ⟨W3, hrun, ?_⟩
    have hIC : Inv C β' s' W3 := hCw hI3
    refine ⟨{ C with β := β', s := s', w := W3, k := C.k }, ⟨hIC.size, rfl, rfl, rfl, rfl, rfl, fun β s w h => hIC.back h (Nat.le_refl _)⟩, ?_, hIC.here, hst0.len, hE3⟩
    obtain ⟨Ds, h1, h2, h3⟩ := hst0.defers.now hIC
    have hsz := hst0.inv.size
    show Marks _ (markOf w.heap.size :: a.defers)
    rw [h1, <- List.map_cons]
    refine Marks.mk' (C1 := { C with β := β', s := s', w := W3, k := C.k }) hIC hnm rfl rfl rfl (List.nodup_cons.2 ⟨fun hm => ?_, h2⟩) fun D hD => ?_
    ·have := (h3 _ hm).2.1; omega
    ·rcases List.mem_cons.1 hD with rfl | hD
     ·exact ⟨by show C.dom <= w.heap.size; omega, hk3⟩
     ·exact ⟨(h3 D hD).1, (h3 D hD).2.2⟩
   rintro e W2 ⟨⟨v, rfl⟩, (⟨X, ⟨j, hj, hpj, β', _, hI, hE, _⟩, hl, hk⟩ | ⟨m, X, _, jump, s'', β', hQ, hI, hE, hl, hk⟩)⟩
   ·obtain ⟨W3, hr, C', hxt, hst'⟩ := out β' (S j) W2 .ready none (by simp) hI hE hl hk
    exact ⟨none, W3, hr, C', hxt, β', env, S j, hst', done j hj hpj⟩
   ·obtain ⟨W3, hr, C', hxt, hst'⟩ := out β' s'' W2 .done (some jump) (by simp) hI hE hl hk
    refine ⟨some jump, W3, hr, ?_⟩
    rcases hQ with ⟨rfl, hQ⟩ | ⟨id, rfl, hQ⟩
    ·exact wpIn_ret ⟨C', hxt, β', env, s'', hst', hQ⟩
    ·exact wpIn_exit ⟨C', hxt, β', env, s'', hst', hQ⟩
theorem m_rngF {σ β : Type} {f : Nat × σ -> Option ((Nat × σ) ⊕ β)} {s0 : σ} {b : β} (hb : loopC f (0, s0) = some b) {g : Operand} {ps : List Nat} {x y : MCode} {gf : Nat} {caps : List AV} {els : List (List D)} (K : Nat)
 (hK : k <= K) (hfix : AV.rens (keepρ K) env = env) (hflat : x.flat = true /\ y.flat = true) (hg : ev env g = .fn gf [] caps) (it : Iter P gf caps els) (hps : ∀ i, i < els.length -> (els.getD i []).length = ps.length)
 (S : σ -> Sto) (hw : Weak k env s env (S s0))
 (round : ∀ j p t, j < els.length -> f (j, p) = some t -> (∀ b', t = .inr b' -> b' = b) ->
  MWp P K x (thenQ (fun env1 s1 => MWp P K y (rngQ K env S (fun p' => t = .inl (j + 1, p')) Q) env1 s1) fun _ _ _ => False) (putAll env (ps.zip ((els.getD j []).map .d))) (S p))
 (done : ∀ p t, f (els.length, p) = some t -> (∀ b', t = .inr b' -> b' = b) -> Q .normal env (S p)) : MWp P k (.rng g ps x y) Q env s := by
 obtain ⟨n, hn⟩ := loopC_some hb
 refine m_rng (ι := Nat × Nat × σ) K hK hfix hflat hg it hps (fun p => S p.2.2) (fun p => p.2.1) (fun p => RunsN f p.1 p.2 b /\ p.2.1 <= els.length) (n, 0, s0) ⟨hn, Nat.zero_le _⟩ rfl hw ?_ ?_
 ·rintro ⟨m, j, p⟩ ⟨hm, _⟩ hj
  cases m with
  | zero => exact hm.elim
  | succ m =>
   have cv : ∀ t : (Nat × σ) ⊕ β, (∀ p', t = .inl (j + 1, p') -> RunsN f m (j + 1, p') b) -> ∀ e env' s', rngQ K env S (fun p' => t = .inl (j + 1, p')) Q e env' s' ->
    rngQ K env (fun p : Nat × Nat × σ => S p.2.2) (fun i' => (RunsN f i'.1 i'.2 b /\ i'.2.1 <= els.length) /\ i'.2.1 = j + 1) Q e env' s' := fun t ht e env' s' hq => by
    cases e with
    | normal => obtain ⟨p', hp, hw⟩ := hq; exact ⟨(m, j + 1, p'), ⟨⟨ht p' hp, hj⟩, rfl⟩, hw⟩
    | _ => exact hq
   rcases hm with hm | ⟨p', hm, hr⟩
   ·refine (round j p _ hj hm fun b' hb' => by cases hb'; rfl).mono fun e env' s' hq => ?_
    cases e with
    | normal => exact MWp.mono hq (cv _ fun p' hp => by cases hp)
    | _ => exact hq
   ·refine (round j p _ hj hm fun b' hb' => by cases hb').mono fun e env' s' hq => ?_
    cases e with
    | normal => exact MWp.mono hq (cv _ fun p'' hp => by cases hp; exact hr)
    | _ => exact hq
 ·rintro ⟨m, j, p⟩ ⟨hm, _⟩ hj
  simp only at hj
  subst hj
  cases m with
  | zero => exact hm.elim
  | succ m =>
   rcases hm with hm | ⟨p', hm, hr⟩
   ·exact done p _ hm fun b' hb' => by cases hb'; rfl
   ·exact done p _ hm fun b' hb' => by cases hb'
theorem rngQ_n {ι : Type} {K : Nat} {env env' : List AV} {s' : Sto} {S : ι -> Sto} {next : ι -> Prop} : rngQ K env S next Q .normal env' s' = ∃ i', next i' /\ ∃ env'', Weak K env' s' env'' (S i') := (rfl)
end
attribute [go_sem] rngQ_n
def Cit (O : Own) (W : World) : Ctx := { O := O, β := fun _ => .no, s := [], w := W, k := 0, nm := true }
theorem Cit.inv {O : Own} {W : World} (hO : ∀ b o, O b o -> b < W.heap.size) : Inv (Cit O W) (fun _ => .no) [] W :=
 ⟨Nat.le_refl _, rfl, fun _ _ _ h _ => h, fun _ _ _ => rfl, fun _ _ h => .inl h, fun id b h => .inl ⟨id, h⟩, fun _ h => absurd h (Nat.not_lt_zero _), fun b o h => ⟨hO b o h, fun ⟨_, h⟩ => h⟩, fun _ => rfl, fun _ _ _ h => h.elim⟩
theorem Cit.grown {O : Own} {β : Beta} {s : Sto} {W W' : World} (h : Inv (Cit O W) β s W') : W.grownBy W' none := by
 have hio := h.io
 simp only [wio, Prod.mk.injEq] at hio
 exact ⟨hio.1, hio.2.2, hio.2.1, h.size, fun k hk _ => h.blks k hk fun id hb => hb⟩
theorem St.again {O X : Own} {W W' W2 : World} {C' : Ctx} {β : Beta} {env : List AV} {a : Act} (hx : Ext (Cit O W) C') (h : St C' β env [] a W') (hid : AV.rens (fun _ => none) env = env)
 (hX : ∀ b o, X b o -> b < W2.heap.size) (hk : ∀ b o v, W'.cell? ⟨b, o, none⟩ = some v -> ¬ O b o -> W2.cell? ⟨b, o, none⟩ = some v /\ ¬ X b o) : St (Cit X W2) (fun _ => .no) env [] a W2 where
 defers := by rw [h.defers.1 hx.nm]; exact .nil
 inv := Cit.inv hX
 len := h.len
 env := fun i x hx' => by
  have h1 := AV.ok_ren (β' := fun _ => .no) (ρ := fun _ => none) (fun i j h => by cases h) x _ (h.env i x hx')
  have h2 : x.ren (fun _ => none) = x := by
   have h3 : (AV.rens (fun _ => none) env)[i]? = (env[i]?).map (AV.ren fun _ => none) := rens_getElem? _ _ _
   rw [hid, hx'] at h3
   simpa using h3.symm
  rw [h2] at h1
  refine AV.ok_mono (fun b o v hc hn => ?_) (fun _ => .refl _) _ _ h1
  have h4 := hk b o v hc fun hO => hn (.inl (by rw [hx.O]; exact hO))
  refine ⟨h4.1, ?_⟩
  rintro (h | ⟨i, h⟩)
  ·exact h4.2 h
  ·exact h
theorem it_step {P : Program} {c : Code} {mc : MCode} {env : List AV} {G : Exit -> List AV -> Prop} (hc : mini P c = some mc.erase) (hf : mc.flat = true)
 (h : MWp P 0 mc (fun e env' s' => ∃ env1, Weak 0 env' s' env1 [] /\ AV.rens (fun _ => none) env1 = env1 /\ G e env1) env []) {a : Act} {W : World} {O : Own} (hst : St (Cit O W) (fun _ => .no) env [] a W) :
 c.wpIn Fence.wide 0 P (fun e a' W' => W.grownBy W' none /\ ∃ env1, St (Cit O W') (fun _ => .no) env1 [] a' W' /\ G e env1) a W :=
 wpIn_mono (h (Cit O W) rfl (.inl hf) c hc _ a W hst) fun e a' W' ⟨C', hx, β', env', s', h1, env1, hw, hid, hG⟩ => by
  obtain ⟨β2, h2⟩ := hw C' β' a' W' hx.k h1
  have hg := Cit.grown (hx.inv _ _ _ h1.inv)
  exact ⟨hg, env1, h2.again hx hid (fun b o h => Nat.lt_of_lt_of_le (hst.inv.low b o h).1 hg.size) (fun b o v h h' => ⟨h, h'⟩), hG⟩
theorem vops_pre {P : Program} {C : Ctx} {ops : Array Oper} {K0 : List AV -> Sto -> Prop} {Q : Exit -> Act -> World -> Prop} {m : Nat} : ∀ (n i : Nat) (ms : List MOper) (env : List AV) (s : Sto), i + (n + m) = ops.size ->
 ((ops.toList.drop i).take n).mapM (miniOper P ops) = some (ms.map MOper.erase) -> vops P C.k ms env s K0 -> ∀ (β : Beta) (a : Act) (w : World), St C β env s a w ->
 (∀ β' env' s' a' w', St C β' env' s' a' w' -> K0 env' s' -> wpOpsIn C.fence 0 P ops Q (List.range' (i + n) m) a' w') -> wpOpsIn C.fence 0 P ops Q (List.range' i (n + m)) a w
 | 0, i, ms, env, s => fun hi hm hk β a w hst hK => by
  simp at hm
  subst hm
  rw [Nat.zero_add]
  exact hK β env s a w hst hk
 | n + 1, i, ms, env, s => fun hi hm hk β a w hst hK => by
  have hlt : i < ops.toList.length := by simp; omega
  rw [List.drop_eq_getElem_cons hlt, List.take_succ_cons] at hm
  simp only [List.mapM_cons, Option.bind_eq_bind, Option.bind_eq_some_iff] at hm
  obtain ⟨m0, h1, ms0, h2, h3⟩ := hm
  cases ms with
  | nil => cases h3
  | cons m1 ms' =>
  simp only [List.map_cons, Option.pure_def, Option.some.injEq, List.cons.injEq] at h3
  obtain ⟨rfl, rfl⟩ := h3
  rw [show n + 1 + m = (n + m) + 1 by omega, List.range'_succ]
  simp only [wpOpsIn]
  have ho : ops[i]? = some ops.toList[i] := by simp at hlt; simp [hlt]
  rw [ho]
  simp only
  refine guard_sound (K := fun env s => vops P C.k ms' env s K0) h1 ?_ hst fun β' env' s' a' w' h4 h5 => vops_pre n (i + 1) ms' env' s' (by omega) h2 h5 β' a' w' h4 fun β'' env'' s'' a'' w'' h6 h7 => ?_
  ·simpa only [vops] using hk
  ·have := hK β'' env'' s'' a'' w'' h6 h7
   rwa [show i + (n + 1) = i + 1 + n by omega] at this
structure ItJ (P : Program) (els : List (List D)) (l : Nat) (J Jx : Nat -> Own -> World -> Prop) : Prop where
 jn : ∀ i X A B, J i X A -> A.grownBy B none -> J i X B
 jx : ∀ i X A B, Jx i X A -> A.grownBy B none -> Jx i X B
 round : ∀ i X W1 (vs : Array Value), i < els.length -> J i X W1 -> AV.oks (fun _ => .no) X W1 ((els.getD i []).map .d) vs.toList -> YieldAt Fence.wide 0 P l vs W1 fun e W' => ∃ X',
  ((e = .returned (.bool true) /\ J (i + 1) X' W') ∨ (e = .returned (.bool false) /\ Jx (i + 1) X' W')) /\ (∀ b o, X' b o -> b < W'.heap.size) /\
  ∀ b o v, W1.cell? ⟨b, o, none⟩ = some v -> ¬ X b o -> W'.cell? ⟨b, o, none⟩ = some v /\ ¬ X' b o
def Live (els : List (List D)) (J Jx : Nat -> Own -> World -> Prop) (n : Nat) (X : Own) (W : World) : Option (List (List D)) -> Prop
 | some r => n <= els.length /\ els.drop n = r /\ J n X W
 | none => ∃ m, m < els.length /\ Jx (m + 1) X W
theorem Live.grow {P : Program} {els : List (List D)} {l : Nat} {J Jx : Nat -> Own -> World -> Prop} (h : ItJ P els l J Jx) {n : Nat} {X : Own} {W W' : World} {r : Option (List (List D))} (hl : Live els J Jx n X W r) (hg : W.grownBy W' none) : Live els J Jx n X W' r := by
 cases r with
 | some r => obtain ⟨h1, h2, h3⟩ := hl; exact ⟨h1, h2, h.jn _ _ _ _ h3 hg⟩
 | none => obtain ⟨m, h1, h2⟩ := hl; exact ⟨m, h1, h.jx _ _ _ _ h2 hg⟩
abbrev IPost := Exit -> List AV -> Option (List (List D)) -> Prop
def IWp (P : Program) (l : Nat) (mc : MCode) (Q : IPost) (env : List AV) (r : Option (List (List D))) : Prop :=
 ∀ c, mini P c = some mc.erase -> ∀ (els : List (List D)) (J Jx : Nat -> Own -> World -> Prop), ItJ P els l J Jx -> ∀ (n : Nat) (X : Own) (a : Act) (W : World), St (Cit X W) (fun _ => .no) env [] a W -> Live els J Jx n X W r ->
  c.wpIn Fence.wide 0 P (fun e a' W' => ∃ n' X' env' r', St (Cit X' W') (fun _ => .no) env' [] a' W' /\ Live els J Jx n' X' W' r' /\ Q e env' r') a W
theorem i_code {P : Program} {l : Nat} {mc : MCode} {Q : IPost} {env : List AV} {r : Option (List (List D))} (hf : mc.flat = true)
 (h : MWp P 0 mc (fun e env' s' => ∃ env1, Weak 0 env' s' env1 [] /\ AV.rens (fun _ => none) env1 = env1 /\ Q e env1 r) env []) : IWp P l mc Q env r :=
 fun c hc els J Jx hJ n X a W hst hl => wpIn_mono (it_step hc hf h hst) fun _ _ _ ⟨hg, env1, h1, h2⟩ => ⟨n, X, env1, r, h1, hl.grow hJ hg, h2⟩
def iseq (P : Program) (l : Nat) (y : MCode) (Q : IPost) : IPost
 | .normal, env, r => IWp P l y Q env r
 | e, env, r => Q e env r
theorem i_seq {P : Program} {l : Nat} {x y : MCode} {Q : IPost} {env : List AV} {r : Option (List (List D))} (h : IWp P l x (iseq P l y Q) env r) : IWp P l (.seq x y) Q env r :=
 fun c hc els J Jx hJ n X a W hst hl => by
  obtain ⟨c1, c2, rfl, h1, h2⟩ := mini_seq (x := x.erase) (y := y.erase) hc
  refine wpIn_seq (wpIn_mono (h c1 h1 els J Jx hJ n X a W hst hl) fun e a' W' ⟨n', X', env', r', k1, k2, k3⟩ => ?_)
  cases e with
  | normal => exact k3 c2 h2 els J Jx hJ n' X' a' W' k1 k2
  | exit id => exact ⟨n', X', env', r', k1, k2, k3⟩
  | goto l => exact ⟨n', X', env', r', k1, k2, k3⟩
  | ret => exact ⟨n', X', env', r', k1, k2, k3⟩
  | panic ch => exact ⟨n', X', env', r', k1, k2, k3⟩
  | outgrown => exact ⟨n', X', env', r', k1, k2, k3⟩
def iblk (id : Nat) (Q : IPost) : IPost
 | .exit id', env, r => if id' = id then Q .normal env r else Q (.exit id') env r
 | e, env, r => Q e env r
theorem i_block {P : Program} {l id : Nat} {x : MCode} {Q : IPost} {env : List AV} {r : Option (List (List D))} (h : IWp P l x (iblk id Q) env r) : IWp P l (.block id x) Q env r :=
 fun c hc els J Jx hJ n X a W hst hl => by
  obtain ⟨c1, rfl, h1⟩ := mini_block (x := x.erase) hc
  refine wpIn_block (wpIn_mono (h c1 h1 els J Jx hJ n X a W hst hl) fun e a' W' ⟨n', X', env', r', k1, k2, k3⟩ => ?_)
  cases e with
  | exit id' =>
   simp only [iblk] at k3
   simp only [Exit.inBlock]
   split <;> rename_i hid <;> simp only [hid, if_true, if_false] at k3 <;> exact ⟨n', X', env', r', k1, k2, k3⟩
  | normal => exact ⟨n', X', env', r', k1, k2, k3⟩
  | goto l => exact ⟨n', X', env', r', k1, k2, k3⟩
  | ret => exact ⟨n', X', env', r', k1, k2, k3⟩
  | panic ch => exact ⟨n', X', env', r', k1, k2, k3⟩
  | outgrown => exact ⟨n', X', env', r', k1, k2, k3⟩
theorem i_weak {P : Program} {l : Nat} {x : MCode} {Q : IPost} {env env1 : List AV} {r : Option (List (List D))} (hw : Weak 0 env [] env1 []) (hid : AV.rens (fun _ => none) env1 = env1) (h : IWp P l x Q env1 r) : IWp P l x Q env r :=
 fun c hc els J Jx hJ n X a W hst hl => by
  obtain ⟨β', hst'⟩ := hw (Cit X W) _ a W rfl hst
  exact h c hc els J Jx hJ n X a W (hst'.again (Ext.refl _) hid (fun b o h => (hst.inv.low b o h).1) fun b o v h h' => ⟨h, h'⟩) hl
def iloop {ι : Type} (E : ι -> List AV) (R : ι -> Option (List (List D))) (inv : ι -> Prop) (Q : IPost) : IPost
 | .normal, env, r => ∃ i', inv i' /\ Weak 0 env [] (E i') [] /\ r = R i'
 | e, env, r => Q e env r
theorem i_loop {P : Program} {l : Nat} {x : MCode} {Q : IPost} {env : List AV} {ι : Type} (E : ι -> List AV) (R : ι -> Option (List (List D))) (inv : ι -> Prop) (μ : ι -> Nat) (i0 : ι) (h0 : inv i0) (hw : Weak 0 env [] (E i0) []) (hid : ∀ i, AV.rens (fun _ => none) (E i) = E i)
 (round : ∀ i, inv i -> IWp P l x (iloop E R (fun i' => inv i' /\ μ i' < μ i) Q) (E i) (R i)) : IWp P l (.loop x) Q env (R i0) := by
 refine i_weak hw (hid i0) fun c hc els J Jx hJ n X a W hst hl => ?_
 obtain ⟨c1, rfl, h1⟩ := mini_loop (x := x.erase) hc
 intro b kk cs hro hb hr
 have key : ∀ m i n X a W, μ i = m -> inv i -> St (Cit X W) (fun _ => .no) (E i) [] a W -> Live els J Jx n X W (R i) ->
  ∃ e a' W', (∃ n' X' env' r', St (Cit X' W') (fun _ => .no) env' [] a' W' /\ Live els J Jx n' X' W' r' /\ Q e env' r') /\ ArrivesIn (Machine.fenced P Fence.wide) P (lone (b.atR a (.code c1 :: .inLoop c1 :: kk)) cs W) b kk cs e a' W' := by
  intro m
  induction m using Nat.strongRecOn with
  | _ m ih =>
   intro i n X a W hn hi hst hl
   obtain ⟨e, a₁, w₁, hq, harr⟩ := round i hi c1 h1 els J Jx hJ n X a W hst hl b (.inLoop c1 :: kk) cs hro hb hr
   obtain ⟨n', X', env', r', k1, k2, hq⟩ := hq
   cases e with
   | normal =>
    obtain ⟨i', ⟨hi', hlt⟩, hwk, rfl⟩ := hq
    obtain ⟨β2, hst2⟩ := hwk (Cit X' w₁) _ a₁ w₁ rfl k1
    have hst3 := hst2.again (Ext.refl _) (hid i') (fun b o h => (k1.inv.low b o h).1) fun b o v h h' => ⟨h, h'⟩
    obtain ⟨e₂, a₂, w₂, hq₂, harr₂⟩ := ih (μ i') (hn ▸ hlt) i' n' X' a₁ w₁ rfl hi' hst3 k2
    exact ⟨e₂, a₂, w₂, hq₂, .of_steps (StepsIn.trans harr (.one (fenced_calm hb hr rfl) stepR_inLoop)) harr₂⟩
   | exit id => exact ⟨_, a₁, w₁, ⟨n', X', env', r', k1, k2, hq⟩, .pass (x := .inLoop c1) rfl (fun _ _ => .inl (by simp)) harr⟩
   | goto l => exact ⟨_, a₁, w₁, ⟨n', X', env', r', k1, k2, hq⟩, .pass (x := .inLoop c1) rfl (fun _ _ => .inl (by simp)) harr⟩
   | ret => exact ⟨_, a₁, w₁, ⟨n', X', env', r', k1, k2, hq⟩, .pass (x := .inLoop c1) rfl (fun _ _ => .inl (by simp)) harr⟩
   | panic ch => exact ⟨_, a₁, w₁, ⟨n', X', env', r', k1, k2, hq⟩, .pass (x := .inLoop c1) rfl (fun _ _ => .inl (by simp)) harr⟩
   | outgrown => exact ⟨_, a₁, w₁, ⟨n', X', env', r', k1, k2, hq⟩, .pass (x := .inLoop c1) rfl (fun _ _ => .inl (by simp)) harr⟩
 obtain ⟨e, a', W', hq, harr⟩ := key _ i0 n X a W rfl h0 hst hl
 exact ⟨e, a', W', hq, .of_steps (.one (fenced_calm hb hr rfl) stepR_loop) harr⟩
theorem yield_run {P : Program} {o : Oper} {c : Call} {ρ : Operand -> Value} {w : World} {l : Nat} (hop : o.op = .call c) {g : Operand} (hc : c.callee = .value g) (hg : ρ g = .func (.yield l) #[] #[]) :
 (execOp ρ o).run P w = (Instr.yield l (c.args.map ρ)).run P w := by
 simp [execOp, hop, resolve, hc, hg, Deferred.ofValue, invoke]
theorem callv_spec {P : Program} {o : Oper} {g : Operand} {xs : List Operand} (h : miniOp P o = some (.callv g xs)) : ∃ c, o.op = .call c /\ c.callee = .value g /\ c.args.toList = xs := by
 unfold miniOp at h
 repeat' split at h
 all_goals first
  | (cases h; done)
  | (simp [Option.bind_eq_some_iff, Option.map_eq_some_iff] at h; done)
  | (simp only [Option.some.injEq, MOp.callv.injEq] at h; obtain ⟨rfl, rfl⟩ := h; exact ⟨_, by assumption, by assumption, rfl⟩)
theorem mapM_drop {α β : Type} {f : α -> Option β} : ∀ {xs : List α} {ys : List β} (n : Nat), xs.mapM f = some ys -> (xs.take n).mapM f = some (ys.take n) /\ (xs.drop n).mapM f = some (ys.drop n)
 | xs, ys, 0, h => by simpa using h
 | [], ys, n + 1, h => by simp at h; subst h; simp
 | x :: xs, ys, n + 1, h => by
  simp only [List.mapM_cons, Option.bind_eq_bind, Option.pure_def, Option.bind_eq_some_iff] at h
  obtain ⟨y, h1, r, h2, h3⟩ := h
  cases h3
  obtain ⟨k1, k2⟩ := mapM_drop n h2
  refine ⟨?_, by simpa using k2⟩
  simp only [List.take_succ_cons, List.mapM_cons, Option.bind_eq_bind, Option.pure_def, h1, k1, Option.bind_some]
theorem Cit.forb {X : Own} {W : World} : (Cit X W).forb (fun _ => .no) [] = X := by
 funext b o; exact propext ⟨fun h => h.elim id fun ⟨_, h⟩ => h.elim, fun h => .inl h⟩
theorem i_yield {P : Program} {l : Nat} {pre post : List MOper} {d : Nat} {g : Operand} {args : List Operand} {Q : IPost} {env : List AV} {x : List D} {r : List (List D)}
 (hpre : vops P 0 pre env [] (fun env' s' => ∃ env1, Weak 0 env' s' env1 [] /\ AV.rens (fun _ => none) env1 = env1 /\ ev env1 g = .d (.lit (.func (.yield l) #[] #[])) /\ args.map (ev env1) = x.map .d /\
  ∀ b, vops P 0 post (env1.set d (.d (bD b))) [] (fun env' s' => ∃ env2, Weak 0 env' s' env2 [] /\ AV.rens (fun _ => none) env2 = env2 /\ Q .normal env2 (if b then some r else none)))) :
 IWp P l (.reg (pre ++ ⟨some d, .callv g args, none⟩ :: post)) Q env (some (x :: r)) := fun c hc els J Jx hJ n X a W hst hl => by
 obtain ⟨rid, ops, rfl, mops⟩ := mini_reg (ms := (pre ++ ⟨some d, .callv g args, none⟩ :: post).map MOper.erase) hc
 have hlen : ops.size = pre.length + (1 + post.length) := by
  have := (mapM_get mops).1
  simp at this
  omega
 obtain ⟨t1, t2⟩ := mapM_drop pre.length mops
 have e1 : (List.map MOper.erase (pre ++ ⟨some d, .callv g args, none⟩ :: post)).take pre.length = pre.map MOper.erase := by rw [List.map_append]; exact List.take_left' (by simp)
 have e2 : (List.map MOper.erase (pre ++ ⟨some d, .callv g args, none⟩ :: post)).drop pre.length = (⟨some d, .callv g args, none⟩ :: post).map MOper.erase := by rw [List.map_append]; exact List.drop_left' (by simp)
 rw [e1] at t1
 rw [e2] at t2
 obtain ⟨t3, t4⟩ := mapM_drop 1 t2
 rw [List.drop_drop] at t4
 simp only [List.map_cons, List.take_succ_cons, List.take_zero, List.drop_succ_cons, List.drop_zero] at t3 t4
 have hlt : pre.length < ops.toList.length := by simp; omega
 rw [List.drop_eq_getElem_cons hlt] at t3
 simp only [List.take_succ_cons, List.take_zero, List.mapM_cons, List.mapM_nil, Option.bind_eq_bind, Option.pure_def, Option.bind_eq_some_iff, Option.some.injEq] at t3
 obtain ⟨m0, q6, _, rfl, q6'⟩ := t3
 simp only [List.cons.injEq, and_true] at q6'
 subst q6'
 have g6 : ops[pre.length]? = some ops.toList[pre.length] := by simp at hlt; simp [hlt]
 generalize ops.toList[pre.length] = o6 at q6 g6
 obtain ⟨p6, d6, gd6⟩ := miniOper_spec q6
 have hmo6 : miniOp P o6 = some (.callv g args) := by
  cases hq : miniOp P o6 with
  | some y => rw [hq] at p6; rw [show y = MOp.callv g args from p6.symm]
  | none => rw [hq] at p6; cases p6
 obtain ⟨cl, hop6, hcal, hargs6⟩ := callv_spec hmo6
 have hgd6 : o6.guard = none := by
  cases hq : o6.guard with
  | none => rfl
  | some x => rw [hq] at gd6; cases gd6
 have hdst6 : o6.dst = some d := d6.symm
 obtain ⟨hn, hdr, hJn⟩ := hl
 have hnl : n < els.length := by
  rcases Nat.lt_or_ge n els.length with h | h
  ·exact h
  ·rw [List.drop_of_length_le h] at hdr; cases hdr
 have hx : els.getD n [] = x /\ els.drop (n + 1) = r := by
  rw [List.drop_eq_getElem_cons hnl] at hdr
  simp only [List.cons.injEq] at hdr
  exact ⟨by rw [List.getD_eq_getElem?_getD, List.getElem?_eq_getElem hnl]; exact hdr.1, hdr.2⟩
 refine wpIn_region ?_
 rw [hlen, List.range_eq_range']
 refine vops_pre (C := Cit X W) (m := 1 + post.length) pre.length 0 pre _ [] (by rw [hlen]; omega) (by rw [List.drop_zero]; exact t1) hpre _ a W hst fun β' env' s' a4 W4 hst4 hK0 => ?_
 obtain ⟨env4, hw4, hid4, hyv4, hargs4, hpost⟩ := hK0
 obtain ⟨β4, hst4'⟩ := hw4 (Cit X W) β' a4 W4 rfl hst4
 have hg4 : W.grownBy W4 none := Cit.grown hst4.inv
 have hst5 := hst4'.again (W2 := W4) (X := X) (Ext.refl _) hid4 (fun b o h => Nat.lt_of_lt_of_le (hst.inv.low b o h).1 hg4.size) (fun b o v h h' => ⟨h, h'⟩)
 have hJ4 := hJ.jn _ _ _ _ hJn hg4
 rw [Nat.zero_add, show 1 + post.length = post.length + 1 by omega, List.range'_succ]
 rw [wpOpsIn]
 rw [g6]
 simp only
 rw [if_pos (wanted_none hgd6)]
 refine ⟨fun _ _ => trivial, ?_⟩
 have hnd : ∀ c, o6.op ≠ .defer c := by rw [hop6]; simp
 have hyv : a4.eval g = .func (.yield l) #[] #[] := by
  have := hst5.ev g
  rw [hyv4] at this
  exact lit_ok this
 rw [Oper.semAt_eq _ _ _ hnd, yield_run (l := l) hop6 hcal hyv]
 have hoks : AV.oks (fun _ => .no) X W4 ((els.getD n []).map .d) (cl.args.map a4.eval).toList := by
  have := evs_ok hst5 args
  rw [hargs4, Cit.forb] at this
  rw [hx.1, Array.toList_map, hargs6]
  exact this
 obtain ⟨fn', tmps', dz', bd', hy, hR⟩ := hJ.round n X W4 _ hnl hJ4 hoks
 rw [hy, Oper.uponIn_round]
 refine ⟨(fun h => by cases h), RoundIn.mono hR ?_⟩
 rintro e5 W5 ⟨X5, hres5, hX5, hk5⟩
 obtain ⟨bb, rfl, hJ5⟩ : ∃ bb, e5 = .returned (.bool bb) /\ Live els J Jx (n + 1) X5 W5 (if bb then some r else none) := by
  rcases hres5 with ⟨h1, h2⟩ | ⟨h1, h2⟩
  ·exact ⟨true, h1, hnl, hx.2, h2⟩
  ·exact ⟨false, h1, n, hnl, h2⟩
 show wpOpsIn Fence.wide 0 P ops _ (List.range' (pre.length + 1) post.length) (a4.put o6.dst (.bool bb)) W5
 rw [hdst6]
 have hst6 : St (Cit X5 W5) (fun _ => .no) (env4.set d (.d (bD bb))) [] (a4.put (some d) (.bool bb)) W5 :=
  (hst5.again (Ext.refl _) hid4 hX5 hk5).put (x := .d (bD bb)) (v := .bool bb) (by simp [AV.ok, bD, D.ok, one]) (some d)
 have := vops_pre (C := Cit X5 W5) (Q := fun e a' W' => ∃ n' X' env' r', St (Cit X' W') (fun _ => .no) env' [] a' W' /\ Live els J Jx n' X' W' r' /\ Q e env' r') (m := 0) post.length (pre.length + 1) post _ [] (by rw [hlen]; omega) (by rw [List.take_of_length_le (by simp; omega)]; exact t4) (hpost bb) _ _ W5 hst6 fun β' env' s' a7 W7 hst7 hK0 => ?_
 ·rw [Nat.add_zero] at this; exact this
 obtain ⟨env7, hw7, hid7, hQ7⟩ := hK0
 obtain ⟨β7, hst7'⟩ := hw7 (Cit X5 W5) β' a7 W7 rfl hst7
 have hg7 : W5.grownBy W7 none := Cit.grown hst7.inv
 have hst8 := hst7'.again (W2 := W7) (X := X5) (Ext.refl _) hid7 (fun b o h => Nat.lt_of_lt_of_le (hX5 b o h) hg7.size) (fun b o v h h' => ⟨h, h'⟩)
 exact ⟨n + 1, X5, env7, _, hst8, hJ5.grow hJ hg7, hQ7⟩
theorem iter_of {P : Program} {gf nt : Nat} {caps : List AV} {els : List (List D)} {mc : MCode} (h : MFn P gf mc nt []) (hen : enters P gf = true) (hcaps : AV.rens (fun _ => none) caps = caps)
 (hmc : ∀ l, IWp P l mc (fun e env' r => (e = .normal ∨ e = .ret) /\ (r = some [] ∨ r = none)) ([.d (.lit (.func (.yield l) #[] #[]))] ++ caps ++ List.replicate (nt - (1 + caps.length)) .junk) (some els)) : Iter P gf caps els := by
 refine ⟨hcaps, enters_spec hen, fun O W lb hlb hO l J Jx hJ hJx hround hJ0 => ?_⟩
 obtain ⟨fn, hf, hb, hnt, hres⟩ := h.fn
 rw [Option.bind_eq_some_iff] at hb
 obtain ⟨c, hbody, hm⟩ := hb
 have hIt : ItJ P els l J Jx := ⟨fun i X A B h hg => hJ i X A B none h hg fun r e => (by cases e), fun i X A B h hg => hJx i X A B none h hg fun r e => (by cases e), hround⟩
 have hlen := AV.oks_length hlb
 refine callsIn_of_wp hf hbody trivial ?_
 have hst0 : St (Cit O W) (fun _ => .no) ([.d (.lit (.func (.yield l) #[] #[]))] ++ caps ++ List.replicate (nt - (1 + caps.length)) .junk) []
  { tmps := (#[.func (.yield l) #[] #[]] ++ lb) ++ Array.replicate (fn.ntmps - (#[.func (.yield l) #[] #[]] ++ lb : Array Value).size) undef, defers := [] } W := by
  rw [hnt]
  have hsz : lb.size = caps.length := by simpa using hlen
  refine ⟨.nil, Cit.inv hO, by simp [hsz]; omega, fun i x hx => ?_⟩
  rw [Cit.forb]
  rcases i with _ | i
  ·simp at hx; subst hx; simp [AV.ok, D.ok, one, Array.getElem?_append]
  ·rw [List.getElem?_append] at hx
   split at hx
   ·rename_i hi
    simp at hi hx
    have hi2 : i < lb.size := by omega
    have h1 : ((#[Value.func (.yield l) #[] #[]] ++ lb) ++ Array.replicate (nt - (#[Value.func (.yield l) #[] #[]] ++ lb : Array Value).size) undef).getD (i + 1) undef = lb[i] := by
     rw [Array.getD_eq_getD_getElem?, Array.getElem?_append_left (by simp; omega), Array.getElem?_append_right (by simp)]
     simp [hi2]
    show AV.ok _ _ _ _ (Array.getD _ (i + 1) undef)
    rw [h1]
    exact (AV.oks_iff.1 hlb).2 i x _ hx (by simp [hi2])
   ·have : x = .junk := by
     rw [List.getElem?_replicate] at hx
     split at hx
     ·cases hx; rfl
     ·cases hx
    subst this
    simp [AV.ok]
 refine wpIn_mono (hmc l c hm els J Jx hIt 0 O _ W hst0 ⟨Nat.zero_le _, rfl, hJ0⟩) fun e a' W' ⟨n', X', env', r', k1, k2, k3, k4⟩ => ?_
 have hR : (∃ X, J els.length X W') ∨ ∃ m X, m < els.length /\ Jx (m + 1) X W' := by
  rcases k4 with rfl | rfl
  ·obtain ⟨h1, h2, h3⟩ := k2
   have : n' = els.length := by
    have := congrArg List.length h2
    simp at this
    omega
   subst this
   exact .inl ⟨X', h3⟩
  ·obtain ⟨m, h1, h2⟩ := k2
   exact .inr ⟨m, X', h1, h2⟩
 have fin : a'.defers = [] /\ ∃ v, (results fn a'.tmps).run P W' = .ok v W' /\ ((∃ v', Ending.returned v = Ending.returned v') /\ ((∃ X, J els.length X W') ∨ ∃ m X, m < els.length /\ Jx (m + 1) X W')) := by
  refine ⟨k1.defers.1 rfl, .tuple #[], ?_, ⟨_, rfl⟩, hR⟩
  have hr0 : fn.results.toList = [] := by
   cases hq : fn.results.toList with
   | nil => rfl
   | cons x r => rw [hq] at hres; simp [List.mapM_cons, Option.bind_eq_some_iff] at hres
  rw [results_eq, Array.mapM_eq_mapM_toList, hr0]
  rfl
 rcases k3 with rfl | rfl
 ·exact fin
 ·exact fin
theorem i_fact {P : Program} {l : Nat} {mc : MCode} {Q : IPost} {env : List AV} {r : Option (List (List D))} {p : Prop} (hp : ∀ X a W, St (Cit X W) (fun _ => .no) env [] a W -> p) (h : p -> IWp P l mc Q env r) : IWp P l mc Q env r :=
 fun c hc els J Jx hJ n X a W hst hl => h (hp X a W hst) c hc els J Jx hJ n X a W hst hl
theorem pv_len {X : Own} {a : Act} {W : World} {env : List AV} {i e : Nat} {ds : List D} {nl : Option Bool} {cs1 cs2 : List D} (hst : St (Cit X W) (fun _ => .no) env [] a W) (h : env[i]? = some (.pv (cs1 ++ .sl e nl ds :: cs2))) : ds.length < 2 ^ 63 := by
 have := hst.env i _ h
 simp only [AV.ok] at this
 obtain ⟨b, o, vs, _, _, h2⟩ := this
 have h3 := (D.oks_iff.1 h2).2 cs1.length (.sl e nl ds) (vs.getD cs1.length undef) (by simp) (by
  have hl := D.oks_length h2
  have : cs1.length < vs.length := by rw [hl]; simp
  simp [List.getD_eq_getElem?_getD, List.getElem?_eq_getElem this])
 simp only [D.ok] at h3
 obtain ⟨_, a2, cap, _, h4, _⟩ := h3
 exact Nat.lt_of_le_of_lt h4.1 h4.2
section
attribute [local irreducible] vcm vgo vdr vrun vdrun MWp GhostQ BrC BrO BrG BrD BrH AmbO callR callD drQ EnvLe StoLe IWp
end
section
attribute [local irreducible] vcm vgo vdr vrun vdrun MWp GhostQ BrC BrO BrG BrD BrH AmbO callR callD drQ EnvLe StoLe
end
def sq : Nat -> List MOp -> List MOper
 | _, [] => []
 | n, x :: xs => ⟨some n, x, none⟩ :: sq (n + 1) xs
def sg (g : Nat) (b : Bool) : Nat -> List MOp -> List MOper
 | _, [] => []
 | n, x :: xs => ⟨some n, x, some (some g, b)⟩ :: sg g b (n + 1) xs
def s0 (x : MOp) : List MOper := [⟨none, x, none⟩]
def t0 (n : Nat) : Operand := .tmp n
def i0 (n : Int) : Operand := .const (.int .i64 n)
def tms : List Nat -> List Operand
 | [] => []
 | n :: ns => .tmp n :: tms ns
def mv (n : Nat) : MOp := .mv (.tmp n)
def mi (n : Int) : MOp := .mv (.const (.int .i64 n))
def mb (b : Bool) : MOp := .mv (.const (.bool b))
def ld (n : Nat) : MOp := .load 1 false (.tmp n)
def la (e n : Nat) : MOp := .load e true (.tmp n)
def fa (o n : Nat) : MOp := .fad o (.tmp n)
def cf (f : Nat) (ns : List Nat) : MOp := .callf f (tms ns)
def pa (a b : Nat) : MOp := .pick (.tmp a) (.tmp b) (.const (.bool false))
def po (a b : Nat) : MOp := .pick (.tmp a) (.const (.bool true)) (.tmp b)
def bn (o : BinOp) (a b : Nat) : MOp := .bin o (.tmp a) (.tmp b)
def bi (o : BinOp) (a : Nat) (n : Int) : MOp := .bin o (.tmp a) (.const (.int .i64 n))
def nt (n : Nat) : MOp := .un .not (.tmp n)
def ln (n : Nat) : MOp := .len (.tmp n)
def ex (n i : Nat) : MOp := .ext (.tmp n) i
def ix (e a b : Nat) : MOp := .ixa e (.tmp a) (.tmp b)
def bo (d t n : Nat) : MOp := .box d t (.tmp n)
def ap (d t e b x y : Nat) : MOp := .app d t e b (.tmp x) (.tmp y)
def sr (n a b : Nat) : MOp := .store n (.tmp a) (.tmp b)
theorem sq_n {n : Nat} : sq n [] = [] := (rfl)
theorem sq_c {n : Nat} {x : MOp} {xs : List MOp} : sq n (x :: xs) = ⟨some n, x, none⟩ :: sq (n + 1) xs := (rfl)
theorem sg_n {g : Nat} {b : Bool} {n : Nat} : sg g b n [] = [] := (rfl)
theorem sg_c {g : Nat} {b : Bool} {n : Nat} {x : MOp} {xs : List MOp} : sg g b n (x :: xs) = ⟨some n, x, some (some g, b)⟩ :: sg g b (n + 1) xs := (rfl)
theorem s0_u {x : MOp} : s0 x = [⟨none, x, none⟩] := (rfl)
theorem t0_u {n : Nat} : t0 n = .tmp n := (rfl)
theorem i0_u {n : Int} : i0 n = .const (.int .i64 n) := (rfl)
theorem tms_n : tms [] = [] := (rfl)
theorem tms_c {n : Nat} {ns : List Nat} : tms (n :: ns) = .tmp n :: tms ns := (rfl)
theorem mv_u {n : Nat} : mv n = .mv (.tmp n) := (rfl)
theorem mi_u {n : Int} : mi n = .mv (.const (.int .i64 n)) := (rfl)
theorem mb_u {b : Bool} : mb b = .mv (.const (.bool b)) := (rfl)
theorem ld_u {n : Nat} : ld n = .load 1 false (.tmp n) := (rfl)
theorem la_u {e n : Nat} : la e n = .load e true (.tmp n) := (rfl)
theorem fa_u {o n : Nat} : fa o n = .fad o (.tmp n) := (rfl)
theorem cf_u {f : Nat} {ns : List Nat} : cf f ns = .callf f (tms ns) := (rfl)
theorem pa_u {a b : Nat} : pa a b = .pick (.tmp a) (.tmp b) (.const (.bool false)) := (rfl)
theorem po_u {a b : Nat} : po a b = .pick (.tmp a) (.const (.bool true)) (.tmp b) := (rfl)
theorem bn_u {o : BinOp} {a b : Nat} : bn o a b = .bin o (.tmp a) (.tmp b) := (rfl)
theorem bi_u {o : BinOp} {a : Nat} {n : Int} : bi o a n = .bin o (.tmp a) (.const (.int .i64 n)) := (rfl)
theorem nt_u {n : Nat} : nt n = .un .not (.tmp n) := (rfl)
theorem ln_u {n : Nat} : ln n = .len (.tmp n) := (rfl)
theorem ex_u {n i : Nat} : ex n i = .ext (.tmp n) i := (rfl)
theorem ix_u {e a b : Nat} : ix e a b = .ixa e (.tmp a) (.tmp b) := (rfl)
theorem bo_u {d t n : Nat} : bo d t n = .box d t (.tmp n) := (rfl)
theorem ap_u {d t e b x y : Nat} : ap d t e b x y = .app d t e b (.tmp x) (.tmp y) := (rfl)
theorem sr_u {n a b : Nat} : sr n a b = .store n (.tmp a) (.tmp b) := (rfl)
attribute [go_sem] sq_n sq_c sg_n sg_c s0_u t0_u i0_u tms_n tms_c mv_u mi_u mb_u ld_u la_u fa_u cf_u pa_u po_u bn_u bi_u nt_u ln_u ex_u ix_u bo_u ap_u sr_u
class HasC {α : Type} (x : Option α) (Q : outParam (α -> Prop)) : Prop where
 c : ∀ {r : α}, x = some r -> Q r
def Bnd {α β : Type} (x : Option α) (K : α -> Option β) (r : β) : Prop := x.bind K = some r
def Ite {α : Type} (c : Bool) (a b : Option α) (r : α) : Prop := (if c = true then a else b) = some r
def Nds {α : Type} (p : Prop) (a : Option α) (r : α) : Prop := p /\ a = some r
theorem toB {α β : Type} {x : Option α} {K : α -> Option β} {r : β} (h : x.bind K = some r) : Bnd x K r := h
theorem toI {α : Type} {c : Bool} {a b : Option α} {r : α} (h : (if c = true then a else b) = some r) : Ite c a b r := h
theorem toN {α : Type} {p : Prop} [Decidable p] {a : Option α} {r : α} (h : (if p then a else none) = some r) : Nds p a r := need_some h
theorem toE {α : Type} {x r : α} (h : some x = some r) : x = r := Option.some.inj h
theorem toF {α : Type} {r : α} (h : none = some r) : False := by cases h
theorem it {α : Type} {c : Bool} {a b : Option α} {r : α} {p q1 q2 : Prop} (h : Ite c a b r) (k1 : c = true -> a = some r -> q1) (k2 : c = false -> b = some r -> q2)
 (e1 : c = true -> p = q1 := by intro hc; (try simp only [List.length_append, List.length_cons, List.length_nil, List.length_map, Nat.reduceAdd] at hc); first | ((conv => lhs; simp (config := { maxSteps := 1000000 }) (disch := omega) only [go_sem, take_mapR, drop_mapR, take_all, drop_all, List.drop_zero, List.append_nil, List.nil_append, Nat.reduceAdd, Nat.reduceSub, Nat.reduceLeDiff, Nat.reduceEqDiff, Nat.reduceLT, Int.reduceToNat, reduceIte, reduceCtorEq, hc]) <;> rfl) | rfl)
 (e2 : c = false -> p = q2 := by intro hc; (try simp only [List.length_append, List.length_cons, List.length_nil, List.length_map, Nat.reduceAdd] at hc); first | ((conv => lhs; simp (config := { maxSteps := 1000000 }) (disch := omega) only [go_sem, take_mapR, drop_mapR, take_all, drop_all, List.drop_zero, List.append_nil, List.nil_append, Nat.reduceAdd, Nat.reduceSub, Nat.reduceLeDiff, Nat.reduceEqDiff, Nat.reduceLT, Int.reduceToNat, reduceIte, reduceCtorEq, hc]) <;> rfl) | rfl) : p :=
 (ite_some h).elim (fun h => (e1 h.1).symm ▸ k1 h.1 h.2) fun h => (e2 h.1).symm ▸ k2 h.1 h.2
def Rt (p : Prop) : Prop := p
theorem rtA {c x : Prop} (h : c) : Rt (c /\ x) = Rt x := propext ⟨fun k => k.2, fun k => ⟨h, k⟩⟩
theorem nds {p q : Prop} (hq : q) (e : p = q := by first | ((conv => lhs; change Rt _; simp (config := { maxSteps := 1000000 }) (disch := omega) only [rtA, go_sem, take_mapR, drop_mapR, take_all, drop_all, List.drop_zero, List.append_nil, List.nil_append, Nat.reduceAdd, Nat.reduceSub, Nat.reduceLeDiff, Nat.reduceEqDiff, Nat.reduceLT, Int.reduceToNat, reduceIte, reduceCtorEq]; delta Rt) <;> rfl) | rfl) : p := e ▸ hq
theorem ndN {α : Type} {c p q : Prop} {a : Option α} {r : α} (h : Nds c a r) (k : c -> a = some r -> q)
 (e : c -> p = q := by intro hp; (try (have hq' := hp; simp only [List.length_append, List.length_cons, List.length_nil, List.length_map, Nat.reduceAdd] at hq')); first | ((conv => lhs; change Rt _; simp (config := { maxSteps := 1000000 }) (disch := omega) only [rtA, go_sem, take_mapR, drop_mapR, take_all, drop_all, List.drop_zero, List.append_nil, List.nil_append, Nat.reduceAdd, Nat.reduceSub, Nat.reduceLeDiff, Nat.reduceEqDiff, Nat.reduceLT, Int.reduceToNat, reduceIte, reduceCtorEq]; delta Rt) <;> rfl) | rfl) : p := (e h.1).symm ▸ (k h.1 h.2)
theorem ndI {α : Type} {c p q : Prop} {_ : Decidable c} {a : Option α} {r : α} (h : (if c then a else none) = some r) (k : c -> a = some r -> q)
 (e : c -> p = q := by intro hp; (try (have hq' := hp; simp only [List.length_append, List.length_cons, List.length_nil, List.length_map, Nat.reduceAdd] at hq')); first | ((conv => lhs; change Rt _; simp (config := { maxSteps := 1000000 }) (disch := omega) only [rtA, go_sem, take_mapR, drop_mapR, take_all, drop_all, List.drop_zero, List.append_nil, List.nil_append, Nat.reduceAdd, Nat.reduceSub, Nat.reduceLeDiff, Nat.reduceEqDiff, Nat.reduceLT, Int.reduceToNat, reduceIte, reduceCtorEq]; delta Rt) <;> rfl) | rfl) : p := (e (need_some h).1).symm ▸ (k (need_some h).1 (need_some h).2)
section
variable {α β : Type} {P : Program} {k0 f : Nat} {args env : List AV} {s : Sto} {d : Option Nat} {R : List AV -> Sto -> Prop} {F : List (List Nat × List Nat) -> List AV -> Sto -> Prop} {ms : List MOper} {acc : List (List Nat × List Nat)} {foot : List Nat}
 {x : Option α} {K : α -> Option β} {r : β} {q : α -> Prop}
theorem rC {dz : List D} {y : α -> D} [i : HasC x fun a => PFun P f dz (y a)] (h : Bnd x K r) (hk : ∀ a, x = some a -> K a = some r -> q a)
 (e : ∀ a, R (setD d env (.d (y a))) s = q a := by intro a; first | ((conv => lhs; simp (config := { maxSteps := 1000000 }) (disch := omega) only [go_sem, take_mapR, drop_mapR, take_all, drop_all, List.drop_zero, List.append_nil, List.nil_append, Nat.reduceAdd, Nat.reduceSub, Nat.reduceLeDiff, Nat.reduceEqDiff, Nat.reduceLT, Int.reduceToNat, reduceIte, reduceCtorEq]) <;> rfl) | rfl) (ha : EnvLe (args.map fun x => x.ren (inρ [])) (dz.map .d) := by exact don) : callR P k0 f args env s d R :=
 let ⟨a, h1, h2⟩ := bind_some h; callR_le (i.c h1) ha ((e a).symm ▸ hk a h1 h2)
theorem rCN {dz : List D} {y : α -> List D} [i : HasC x fun a => PFunN P f dz (y a)] (h : Bnd x K r) (hk : ∀ a, x = some a -> K a = some r -> q a)
 (e : ∀ a, R (setD d env (.tup ((y a).map .d))) s = q a := by intro a; first | ((conv => lhs; simp (config := { maxSteps := 1000000 }) (disch := omega) only [go_sem, take_mapR, drop_mapR, take_all, drop_all, List.drop_zero, List.append_nil, List.nil_append, Nat.reduceAdd, Nat.reduceSub, Nat.reduceLeDiff, Nat.reduceEqDiff, Nat.reduceLT, Int.reduceToNat, reduceIte, reduceCtorEq]) <;> rfl) | rfl) (ha : EnvLe (args.map fun x => x.ren (inρ [])) (dz.map .d) := by exact don) : callR P k0 f args env s d R :=
 let ⟨a, h1, h2⟩ := bind_some h; callR_leN (i.c h1) ha ((e a).symm ▸ hk a h1 h2)
theorem dC {dz : List D} {y : α -> D} [i : HasC x fun a => PFun P f dz (y a)] (h : Bnd x K r) (hk : ∀ a, x = some a -> K a = some r -> q a)
 (e : ∀ a, vdr P k0 F ms ((foot, []) :: acc) (setD d env (.d (y a))) s = q a := by intro a; first | ((conv => lhs; simp (config := { maxSteps := 1000000 }) (disch := omega) only [go_sem, take_mapR, drop_mapR, take_all, drop_all, List.drop_zero, List.append_nil, List.nil_append, Nat.reduceAdd, Nat.reduceSub, Nat.reduceLeDiff, Nat.reduceEqDiff, Nat.reduceLT, Int.reduceToNat, reduceIte, reduceCtorEq]) <;> rfl) | rfl) (ha : EnvLe (args.map fun x => x.ren (inρ [])) (dz.map .d) := by exact don) : callD P k0 F ms acc foot d env s f args :=
 let ⟨a, h1, h2⟩ := bind_some h; callD_le (i.c h1) ha ((e a).symm ▸ hk a h1 h2)
theorem dCN {dz : List D} {y : α -> List D} [i : HasC x fun a => PFunN P f dz (y a)] (h : Bnd x K r) (hk : ∀ a, x = some a -> K a = some r -> q a)
 (e : ∀ a, vdr P k0 F ms ((foot, []) :: acc) (setD d env (.tup ((y a).map .d))) s = q a := by intro a; first | ((conv => lhs; simp (config := { maxSteps := 1000000 }) (disch := omega) only [go_sem, take_mapR, drop_mapR, take_all, drop_all, List.drop_zero, List.append_nil, List.nil_append, Nat.reduceAdd, Nat.reduceSub, Nat.reduceLeDiff, Nat.reduceEqDiff, Nat.reduceLT, Int.reduceToNat, reduceIte, reduceCtorEq]) <;> rfl) | rfl) (ha : EnvLe (args.map fun x => x.ren (inρ [])) (dz.map .d) := by exact don) : callD P k0 F ms acc foot d env s f args :=
 let ⟨a, h1, h2⟩ := bind_some h; callD_leN (i.c h1) ha ((e a).symm ▸ hk a h1 h2)
theorem rCo (pr nw : List (Nat × Nat)) {dz : List AV} {s1 : Sto} {t : α -> Sto} {y : α -> AV} [i : HasC x fun a => ACalls P f dz s1 pr.length fun x s' => x = y a /\ s' = t a] (h : Bnd x K r) (hk : ∀ a, x = some a -> K a = some r -> q a)
 (e : ∀ a, R (setD d env ((y a).ren (outρ (pr ++ nw)))) (sback s (t a) (pr ++ nw) (pr ++ nw)) = q a := by intro a; first | ((conv => lhs; simp (config := { maxSteps := 1000000 }) (disch := omega) only [go_sem, take_mapR, drop_mapR, take_all, drop_all, List.drop_zero, List.append_nil, List.nil_append, Nat.reduceAdd, Nat.reduceSub, Nat.reduceLeDiff, Nat.reduceEqDiff, Nat.reduceLT, Int.reduceToNat, reduceIte, reduceCtorEq]) <;> rfl) | rfl)
 (h1 : pr.map (·.1) = List.range pr.length := by rfl) (h2 : ((pr ++ nw).map (·.1)).Nodup := by decide) (h3 : ((pr ++ nw).map (·.2)).Nodup := by decide)
 (h4 : ∀ p ∈ nw, sat s p.2 = .dead /\ k0 <= p.2 := by simp [sat]) (ha : EnvLe (args.map fun x => x.ren (inρ pr)) dz := by exact don) (hs : StoLe (scallee s pr pr) s1 := by exact don) : callR P k0 f args env s d R :=
 let ⟨a, g1, g2⟩ := bind_some h; callR_o pr nw (i.c g1) h1 h2 h3 h4 ha hs ((e a).symm ▸ hk a g1 g2)
theorem dCo (pr nw : List (Nat × Nat)) {dz : List AV} {s1 : Sto} {t : α -> Sto} {y : α -> AV} [i : HasC x fun a => ACalls P f dz s1 pr.length fun x s' => x = y a /\ s' = t a] (h : Bnd x K r) (hk : ∀ a, x = some a -> K a = some r -> q a)
 (e : ∀ a, vdr P k0 F ms (((pr ++ nw).map (·.2) ++ foot, (obΔ (t a) (pr ++ nw) (pr ++ nw)).map (·.1)) :: acc) (setD d env ((y a).ren (outρ (pr ++ nw)))) (sapp s (obΔ (t a) (pr ++ nw) (pr ++ nw))) = q a := by intro a; first | ((conv => lhs; simp (config := { maxSteps := 1000000 }) (disch := omega) only [go_sem, take_mapR, drop_mapR, take_all, drop_all, List.drop_zero, List.append_nil, List.nil_append, Nat.reduceAdd, Nat.reduceSub, Nat.reduceLeDiff, Nat.reduceEqDiff, Nat.reduceLT, Int.reduceToNat, reduceIte, reduceCtorEq]) <;> rfl) | rfl)
 (h1 : pr.map (·.1) = List.range pr.length := by rfl) (h2 : ((pr ++ nw).map (·.1)).Nodup := by decide) (h3 : ((pr ++ nw).map (·.2)).Nodup := by decide)
 (h4 : ∀ p ∈ nw, sat s p.2 = .dead /\ k0 <= p.2 := by simp [sat]) (ha : EnvLe (args.map fun x => x.ren (inρ pr)) dz := by exact don) (hs : StoLe (scallee s pr pr) s1 := by exact don) : callD P k0 F ms acc foot d env s f args :=
 let ⟨a, g1, g2⟩ := bind_some h; callD_o pr nw (i.c g1) h1 h2 h3 h4 ha hs ((e a).symm ▸ hk a g1 g2)
end
theorem aut {p : Prop} (h : p := by repeat' first
 | refine drQ_of (by kernel_rfl) (stp ?_)
 | refine need_i (by omega) (nds ?_)
 | (with_reducible replace h := toE h); subst h; first | (refine ⟨_, rfl, Weak.leS ?_ ?_⟩ <;> (first | (simp only [go_sem, slD, List.map_append, List.map_take, List.map_drop, List.append_assoc, Nat.reduceAdd, Nat.reduceSub, Nat.reduceLeDiff, Nat.reduceEqDiff, Nat.reduceLT, reduceIte, reduceCtorEq]; done) | ((try simp only [go_sem, slD, List.map_append, List.map_take, List.map_drop, List.append_assoc, Nat.reduceAdd, Nat.reduceSub, Nat.reduceLeDiff, Nat.reduceEqDiff, Nat.reduceLT, reduceIte, reduceCtorEq]; repeat' (first | exact AV.le_refl _ | refine And.intro ?_ ?_ | refine AV.le_tup ?_ | refine AV.le_aggD ?_ | refine AV.le_agg ?_ | refine AV.le_d (DL.agg ?_) | exact enN | exact stoN | refine enC ?_ ?_ | refine stoC ?_ ?_ | exact dsN | refine dsC ?_ ?_ | exact EnvLe_rep (AV.le_d DL.nil) _ |  exact D.le_refl _ | exact dle_nil | exact dle_forget | refine dle_agg ?_ | (simp only [go_sem, slD, List.map_append, List.map_take, List.map_drop, List.append_assoc, Nat.reduceAdd, Nat.reduceSub, Nat.reduceLeDiff, Nat.reduceEqDiff, Nat.reduceLT, reduceIte, reduceCtorEq]; done) | refine DsLe.append (DsLe.refl _) ?_ | refine AV.le_ownown ?_ | refine AV.le_sl ?_ | omega)); done))) | (first | (simp only [go_sem, slD, List.map_append, List.map_take, List.map_drop, List.append_assoc, Nat.reduceAdd, Nat.reduceSub, Nat.reduceLeDiff, Nat.reduceEqDiff, Nat.reduceLT, reduceIte, reduceCtorEq]; done) | ((try simp only [go_sem, slD, List.map_append, List.map_take, List.map_drop, List.append_assoc, Nat.reduceAdd, Nat.reduceSub, Nat.reduceLeDiff, Nat.reduceEqDiff, Nat.reduceLT, reduceIte, reduceCtorEq]; repeat' (first | exact AV.le_refl _ | refine And.intro ?_ ?_ | refine AV.le_tup ?_ | refine AV.le_aggD ?_ | refine AV.le_agg ?_ | refine AV.le_d (DL.agg ?_) | exact enN | exact stoN | refine enC ?_ ?_ | refine stoC ?_ ?_ | exact dsN | refine dsC ?_ ?_ | exact EnvLe_rep (AV.le_d DL.nil) _ |  exact D.le_refl _ | exact dle_nil | exact dle_forget | refine dle_agg ?_ | (simp only [go_sem, slD, List.map_append, List.map_take, List.map_drop, List.append_assoc, Nat.reduceAdd, Nat.reduceSub, Nat.reduceLeDiff, Nat.reduceEqDiff, Nat.reduceLT, reduceIte, reduceCtorEq]; done) | refine DsLe.append (DsLe.refl _) ?_ | refine AV.le_ownown ?_ | refine AV.le_sl ?_ | omega)); done)) | (refine ⟨[], by simp, ?_, ?_⟩ <;> (first | (simp only [go_sem, slD, List.map_append, List.map_take, List.map_drop, List.append_assoc, Nat.reduceAdd, Nat.reduceSub, Nat.reduceLeDiff, Nat.reduceEqDiff, Nat.reduceLT, reduceIte, reduceCtorEq]; done) | ((try simp only [go_sem, slD, List.map_append, List.map_take, List.map_drop, List.append_assoc, Nat.reduceAdd, Nat.reduceSub, Nat.reduceLeDiff, Nat.reduceEqDiff, Nat.reduceLT, reduceIte, reduceCtorEq]; repeat' (first | exact AV.le_refl _ | refine And.intro ?_ ?_ | refine AV.le_tup ?_ | refine AV.le_aggD ?_ | refine AV.le_agg ?_ | refine AV.le_d (DL.agg ?_) | exact enN | exact stoN | refine enC ?_ ?_ | refine stoC ?_ ?_ | exact dsN | refine dsC ?_ ?_ | exact EnvLe_rep (AV.le_d DL.nil) _ |  exact D.le_refl _ | exact dle_nil | exact dle_forget | refine dle_agg ?_ | (simp only [go_sem, slD, List.map_append, List.map_take, List.map_drop, List.append_assoc, Nat.reduceAdd, Nat.reduceSub, Nat.reduceLeDiff, Nat.reduceEqDiff, Nat.reduceLT, reduceIte, reduceCtorEq]; done) | refine DsLe.append (DsLe.refl _) ?_ | refine AV.le_ownown ?_ | refine AV.le_sl ?_ | omega)); done)))
 | (with_reducible exact (toF h).elim)
 | (with_reducible replace h := toI h); refine it h (fun hc h => ?_) (fun hc h => ?_)
 | (with_reducible replace h := toN h); refine ndN h (fun hp h => ?_)
 | (with_reducible replace h := toB h); first | refine rC h (fun r hr h => ?_) | refine rCN h (fun r hr h => ?_) | refine dC h (fun r hr h => ?_) | refine dCN h (fun r hr h => ?_)
 | (with_reducible replace h := inr_some h hb3)
 | (with_reducible replace h := inr_some h hb2)
 | (with_reducible replace h := inr_some h hb1)
 | (exfalso; simp only [decide_eq_true_eq, decide_eq_false_iff_not] at *; omega)) : p := h
theorem iT {α : Type} {c : Bool} {a b : Option α} {r : α} {p q1 : Prop} (h : (if c = true then a else b) = some r) (k1 : c = true -> a = some r -> q1)
 (e1 : c = true -> p = q1 := by intro hc; (try simp only [List.length_append, List.length_cons, List.length_nil, List.length_map, Nat.reduceAdd] at hc); first | ((conv => lhs; simp (config := { maxSteps := 1000000 }) (disch := omega) only [go_sem, take_mapR, drop_mapR, take_all, drop_all, List.drop_zero, List.append_nil, List.nil_append, Nat.reduceAdd, Nat.reduceSub, Nat.reduceLeDiff, Nat.reduceEqDiff, Nat.reduceLT, Int.reduceToNat, reduceIte, reduceCtorEq, hc]) <;> rfl) | rfl)
 (k2 : c = false -> b = some r -> p := by intro hc h; (try simp only [List.length_append, List.length_cons, List.length_nil, List.length_map, Nat.reduceAdd] at hc); refine stpc hc ?_; exact aut) : p :=
 (ite_some h).elim (fun h => (e1 h.1).symm ▸ k1 h.1 h.2) fun h => k2 h.1 h.2
theorem iF {α : Type} {c : Bool} {a b : Option α} {r : α} {p q2 : Prop} (h : (if c = true then a else b) = some r) (k2 : c = false -> b = some r -> q2)
 (e2 : c = false -> p = q2 := by intro hc; (try simp only [List.length_append, List.length_cons, List.length_nil, List.length_map, Nat.reduceAdd] at hc); first | ((conv => lhs; simp (config := { maxSteps := 1000000 }) (disch := omega) only [go_sem, take_mapR, drop_mapR, take_all, drop_all, List.drop_zero, List.append_nil, List.nil_append, Nat.reduceAdd, Nat.reduceSub, Nat.reduceLeDiff, Nat.reduceEqDiff, Nat.reduceLT, Int.reduceToNat, reduceIte, reduceCtorEq, hc]) <;> rfl) | rfl)
 (k1 : c = true -> a = some r -> p := by intro hc h; (try simp only [List.length_append, List.length_cons, List.length_nil, List.length_map, Nat.reduceAdd] at hc); refine stpc hc ?_; exact aut) : p :=
 (ite_some h).elim (fun h => k1 h.1 h.2) fun h => (e2 h.1).symm ▸ k2 h.1 h.2
theorem m_lW {P : Program} {k : Nat} {Q : Post} {env : List AV} {s : Sto} {x : MCode} {σ β : Type} {f : σ -> Option (σ ⊕ β)} {s0 : σ} {b : β} (hb : loopC f s0 = some b)
 (ws : List Nat) (vs : σ -> List (Nat × AV)) (S : σ -> Sto)
 (round : ∀ p t, f p = some t -> (∀ b', t = .inr b' -> b' = b) -> MWp P k x (thenQ (fun env' s' => ∃ p', t = .inl p' /\ Weak k env' s' (putAll (junkAll env ws) (vs p')) (S p')) Q)
  (putAll (junkAll env ws) (vs p)) (S p)) (hw : Weak k env s (putAll (junkAll env ws) (vs s0)) (S s0) := by (try dsimp only); exact wk) : MWp P k (.loop x) Q env s := m_loopF hb ws vs S hw round
def litD : D -> Bool
 | .lit _ => true
 | _ => false
def cellD : D -> Bool
 | .lit _ => true
 | .sl _ _ _ => true
 | _ => false
def toldC : D -> AV
 | .sl e nl xs => .dp (.sl e nl xs)
 | x => .d x
theorem NV_of_told {β : Beta} {O : Own} {w : World} {x : D} {v : Value} {bs : List Nat} (hx : cellD x = true) (h : NX β O w (toldC x) v bs) : NV w x v bs := by
 cases x with
 | any => cases hx
 | agg cs => cases hx
 | lit u =>
  obtain ⟨h1, h2⟩ := h
  have h1 : D.ok O w (.lit u) v := by
   have h1 : AV.ok β O w (.d (.lit u)) v := h1
   simpa only [AV.ok] using h1
  have h1 : v = u /\ one u = true := by simpa only [D.ok] using h1
  exact ⟨h1.1, h1.2, h2⟩
 | sl e nl xs => exact h
theorem NC_of_told {β : Beta} {O : Own} {w : World} : ∀ {cs : List D} {vs r : List Value} {bs : List Nat}, (∀ x ∈ cs, cellD x = true) -> vs.length = cs.length -> NXs β O w (cs.map toldC) (vs ++ r) bs -> NC w cs vs bs
 | [], vs, r, bs, _, hl, h => by
  simp only [List.map_nil, NXs] at h
  simp only [NC]
  exact ⟨List.length_eq_zero_iff.1 hl, h⟩
 | c :: cs, [], r, bs, _, hl, _ => by simp at hl
 | c :: cs, u :: us, r, bs, hc, hl, h => by
  simp only [List.map_cons, List.cons_append, NXs] at h
  obtain ⟨v, q, b1, b2, h1, rfl, h3, h4⟩ := h
  cases h1
  simp only [NC]
  exact ⟨u, us, b1, b2, rfl, rfl, NV_of_told (hc c (by simp)) h3, NC_of_told (fun x hx => hc x (by simp [hx])) (by simpa using hl) h4⟩
theorem NR_of_told {β : Beta} {O : Own} {w : World} {e : Nat} : ∀ {xs : List D} {vs : List Value} {bs : List Nat}, (∀ x ∈ xs, (dcells x).length = e) -> (∀ x ∈ xs, ∀ c ∈ dcells x, cellD c = true) ->
 NXs β O w ((xs.flatMap dcells).map toldC) vs bs -> NR w e xs vs bs
 | [], vs, bs, _, _, h => by simpa [NXs, NR] using h
 | x :: xs, vs, bs, he, hc, h => by
  rw [List.flatMap_cons, List.map_append] at h
  obtain ⟨h1, b1, b2, rfl, h2, h3⟩ := NXs_split h
  rw [List.length_map] at h1 h3
  have hlen := he x (by simp)
  have hsp : vs = vs.take e ++ vs.drop e := (List.take_append_drop e vs).symm
  have hle : e <= vs.length := by omega
  have ih := NR_of_told (xs := xs) (fun y hy => he y (by simp [hy])) (fun y hy => hc y (by simp [hy])) h3
  rw [hlen] at ih
  have hnc : NC w (dcells x) (vs.take e) b1 := NC_of_told (r := vs.drop e) (hc x (by simp)) (by rw [List.length_take, hlen]; omega) (by rw [List.take_append_drop]; exact h2)
  cases x with
  | agg cs =>
   simp only [NR]
   exact ⟨vs.take e, vs.drop e, b1, b2, hsp, by rw [List.length_take]; omega, rfl, hnc, ih⟩
  | any => exact absurd (hc .any (by simp) .any (by simp [dcells])) (by simp [cellD])
  | lit u =>
   simp only [dcells, List.length_cons, List.length_nil] at hlen
   subst hlen
   simp only [dcells, NC] at hnc
   obtain ⟨v, r, c1, c2, g1, rfl, g3, g4, rfl⟩ := hnc
   simp only [NR]
   exact ⟨v, vs.drop 1, c1, b2, by
    conv => lhs; rw [hsp]
    rw [g1, g4]; rfl, by trivial, by simp, g3, ih⟩
  | sl e' nl ys =>
   simp only [dcells, List.length_cons, List.length_nil] at hlen
   subst hlen
   simp only [dcells, NC] at hnc
   obtain ⟨v, r, c1, c2, g1, rfl, g3, g4, rfl⟩ := hnc
   simp only [NR]
   exact ⟨v, vs.drop 1, c1, b2, by
    conv => lhs; rw [hsp]
    rw [g1, g4]; rfl, by trivial, by simp, g3, ih⟩
def tolds (ds : List D) : List AV := (ds.flatMap dcells).map toldC
theorem rens_append' {ρ : Nat -> Option Nat} : ∀ {xs ys : List AV}, AV.rens ρ (xs ++ ys) = AV.rens ρ xs ++ AV.rens ρ ys := fun {xs ys} => by simp only [rens_mapB, List.map_append]
theorem nv_prv {C : Ctx} {β : Beta} {s : Sto} {w : World} (h : Inv C β s w) {id' e : Nat} {xs : List D} (hs : sat s id' = .prv e xs.length (tolds xs))
 (he : ∀ x ∈ xs, (dcells x).length = e) (hc : ∀ x ∈ xs, ∀ c ∈ dcells x, cellD c = true) (v : Value) (hv : AV.ok β (C.forb β s) w (.gow e id' xs.length) v) :
 ∃ B : List Nat, B.Nodup /\ (∀ b ∈ B, blockOf β s id' b /\ ∃ vs t', w.heap[b]? = some (.cells vs t' (0, 0))) /\ NV w (.sl e none xs) v B := by
 have ho := h.obs id'
 rw [hs] at ho
 obtain ⟨u, bs, hb, h0, hl, htok⟩ := ho
 simp only [AV.ok] at hv
 obtain ⟨p, q, h1, _, h3, _⟩ := hv
 rw [hb] at h1
 obtain ⟨rfl, rfl⟩ := h1
 have hvu : v = u := h3 rfl
 subst hvu
 rcases htok with ⟨⟨a, rfl⟩, k2, rfl⟩ | ⟨b, cap', vs, t, rfl, k5, k6, k7, k8, k9, kc, k10, k11⟩
 ·have hx : xs = [] := List.length_eq_zero_iff.1 k2
  subst hx
  refine ⟨[], by simp, by simp, ?_⟩
  simp only [NV]
  exact ⟨a, 0, rfl, ⟨Nat.le_refl _, by omega⟩, trivial, .inl (by simp)⟩
 ·refine ⟨b :: bs, k10, fun q hq => ?_, ?_⟩
  ·rcases List.mem_cons.1 hq with rfl | hq
   ·exact ⟨by unfold blockOf; rw [hs]; exact ⟨_, bs, hb, .inl ⟨cap', rfl, kc⟩⟩, vs, t, k5⟩
   ·exact ⟨by unfold blockOf; rw [hs]; exact ⟨_, bs, hb, .inr hq⟩, h0 q hq⟩
  ·simp only [NV]
   exact ⟨_, cap', rfl, ⟨k7, k8⟩, trivial, .inr ⟨b, vs, t, bs, rfl, rfl, k5, k6, k9, NR_of_told he hc k11⟩⟩
def WholeP (s : Sto) (id' e' : Nat) (xs : List D) : Prop := sat s id' = .prv e' xs.length (tolds xs) /\ (∀ x ∈ xs, (dcells x).length = e') /\ ∀ x ∈ xs, ∀ c ∈ dcells x, cellD c = true
theorem WholeP.nv {C : Ctx} {β : Beta} {s : Sto} {w : World} (h : Inv C β s w) {id' e' : Nat} {xs : List D} (hw : WholeP s id' e' xs) (v : Value) (hv : AV.ok β (C.forb β s) w (.gow e' id' xs.length) v) :
 ∃ B : List Nat, B.Nodup /\ (∀ b ∈ B, blockOf β s id' b /\ ∃ vs t', w.heap[b]? = some (.cells vs t' (0, 0))) /\ NV w (.sl e' none xs) v B := nv_prv h hw.1 hw.2.1 hw.2.2 v hv
theorem own_prv {β : Beta} {s : Sto} {id e n b : Nat} {cs : List AV} (hs : sat s id = .prv e n cs) (hb : blockOf β s id b) (o : Nat) : own β s b o := ⟨id, by unfold blockOf at hb; rw [hs] at hb ⊢; exact hb⟩
mutual
theorem NV.ok {O : Own} {w : World} : ∀ {x : D} {v : Value} {bs : List Nat}, NV w x v bs -> (∀ b ∈ bs, ∀ o, ¬ O b o) -> D.ok O w x v
 | .any, _, _ => fun h _ => h.elim
 | .agg _, _, _ => fun h _ => h.elim
 | .lit u, v, bs => fun h _ => by
  simp only [NV] at h
  simp only [D.ok]
  exact ⟨h.1, h.2.1⟩
 | .sl e nl xs, v, bs => fun h hO => by
  simp only [NV] at h
  simp only [D.ok]
  obtain ⟨a, cap, rfl, h2, h3, h4⟩ := h
  refine ⟨a, cap, rfl, h2, h3, ?_⟩
  rcases h4 with ⟨_, rfl, _⟩ | ⟨b, vs, t, bs', rfl, rfl, h5, h6, h7, h8⟩
  ·exact .inl rfl
  ·refine .inr ⟨b, 0, rfl, NR.row h8 (fun q hq => hO q (by simp [hq])) fun j u hj => ?_⟩
   refine ⟨?_, hO b (by simp) _, h7 u (List.mem_of_getElem? hj)⟩
   simp only [World.cell?, h5, Option.isSome_none, Bool.false_eq_true, if_false, Nat.zero_add]
   simpa using hj
theorem NC.oks {O : Own} {w : World} : ∀ {xs : List D} {vs : List Value} {bs : List Nat}, NC w xs vs bs -> (∀ v ∈ vs, one v = true) -> (∀ b ∈ bs, ∀ o, ¬ O b o) -> D.oks O w xs vs
 | [], vs, bs => fun h _ _ => by
  simp only [NC] at h
  simp only [D.oks]
  exact h.1
 | c :: cs, vs, bs => fun h h1 hO => by
  simp only [NC] at h
  obtain ⟨v, r, b1, b2, rfl, rfl, h3, h4⟩ := h
  simp only [D.oks]
  exact ⟨v, r, rfl, h1 v (by simp), NV.ok h3 (fun b hb => hO b (by simp [hb])), NC.oks h4 (fun v hv => h1 v (by simp [hv])) (fun b hb => hO b (by simp [hb]))⟩
theorem NR.row {O : Own} {w : World} {b o e : Nat} : ∀ {xs : List D} {vs : List Value} {bs : List Nat}, NR w e xs vs bs -> (∀ b ∈ bs, ∀ o, ¬ O b o) -> Cells O w b o vs -> D.row O w b o e xs
 | [], _, _ => fun _ _ _ => by simp [D.row]
 | .agg cs :: xs, vs, bs => fun h hO hc => by
  simp only [NR] at h
  obtain ⟨us, r, b1, b2, rfl, hl, rfl, h3, h4⟩ := h
  simp only [D.row]
  have hc1 : Cells O w b o us := fun j v hj => hc j v (by rw [List.getElem?_append_left (List.getElem?_eq_some_iff.1 hj).1]; exact hj)
  have hc2 : Cells O w b (o + e) r := fun j v hj => by
   have := hc (e + j) v (by rw [List.getElem?_append_right (by omega), hl, Nat.add_sub_cancel_left]; exact hj)
   rwa [<- Nat.add_assoc] at this
  exact ⟨⟨us, hl, hc1, NC.oks h3 (fun v hv => by obtain ⟨j, hj⟩ := List.getElem?_of_mem hv; exact (hc1 j v hj).2.2) fun b hb => hO b (by simp [hb])⟩, NR.row h4 (fun b hb => hO b (by simp [hb])) hc2⟩
 | .any :: xs, vs, bs => fun h hO hc => by
  simp only [NR] at h
  obtain ⟨v, r, b1, b2, rfl, rfl, rfl, h3, h4⟩ := h
  exact h3.elim
 | .lit u :: xs, vs, bs => fun h hO hc => by
  have hq := fun v b1 => NV.ok (O := O) (w := w) (x := .lit u) (v := v) (bs := b1)
  simp only [NR] at h
  obtain ⟨v, r, b1, b2, rfl, rfl, rfl, h3, h4⟩ := h
  simp only [D.row]
  refine ⟨⟨v, by trivial, fun j u hj => ?_, hq v b1 h3 (fun b hb => hO b (by simp [hb]))⟩, NR.row h4 (fun b hb => hO b (by simp [hb])) fun j u hj => ?_⟩
  ·cases j with
   | zero => exact hc 0 u (by simpa using hj)
   | succ j => simp at hj
  ·have := hc (1 + j) u (by rw [Nat.add_comm]; simpa using hj)
   rwa [<- Nat.add_assoc] at this
 | .sl e' nl ys :: xs, vs, bs => fun h hO hc => by
  have hq := fun v b1 => NV.ok (O := O) (w := w) (x := .sl e' nl ys) (v := v) (bs := b1)
  simp only [NR] at h
  obtain ⟨v, r, b1, b2, rfl, rfl, rfl, h3, h4⟩ := h
  simp only [D.row]
  refine ⟨⟨v, by trivial, fun j u hj => ?_, hq v b1 h3 (fun b hb => hO b (by simp [hb]))⟩, NR.row h4 (fun b hb => hO b (by simp [hb])) fun j u hj => ?_⟩
  ·cases j with
   | zero => exact hc 0 u (by simpa using hj)
   | succ j => simp at hj
  ·have := hc (1 + j) u (by rw [Nat.add_comm]; simpa using hj)
   rwa [<- Nat.add_assoc] at this
end
theorem lent_tok {C : Ctx} {β : Beta} {s : Sto} {w : World} (h : Inv C β s w) {e id n : Nat} {xs : List D} (hw : WholeP s id e xs) (hn : n = xs.length) {v : Value} (hv : AV.ok β (C.forb β s) w (.gow e id n) v) : D.ok C.O w (.sl e none xs) v := by
 subst hn
 obtain ⟨B, h1, h2, h3⟩ := hw.nv h v hv
 refine NV.ok h3 fun b hb o hO => ?_
 have hl := h.low b o hO
 rcases h.ownd b o (own_prv hw.1 (h2 b hb).1 o) with h4 | h4
 ·exact hl.2 h4
 ·omega
class LitF {α : Type} (f : α -> D) : Prop where
 lit : ∀ x, litD (f x) = true
class Cl {α : Type} (f : α -> D) : Prop where
 cl : ∀ x, ∀ c ∈ dcells (f x), cellD c = true
instance : LitF iD := ⟨fun _ => rfl⟩
instance : LitF bD := ⟨fun _ => rfl⟩
instance : LitF sD := ⟨fun _ => rfl⟩
instance {k : IntKind} : LitF (kD k) := ⟨fun _ => rfl⟩
instance : Cl iD := ⟨fun _ c h => by simp only [iD, dcells, List.mem_singleton] at h; subst h; rfl⟩
instance : Cl bD := ⟨fun _ c h => by simp only [bD, dcells, List.mem_singleton] at h; subst h; rfl⟩
instance : Cl sD := ⟨fun _ c h => by simp only [sD, dcells, List.mem_singleton] at h; subst h; rfl⟩
instance {k : IntKind} : Cl (kD k) := ⟨fun _ c h => by simp only [kD, dcells, List.mem_singleton] at h; subst h; rfl⟩
instance {α : Type} {e : Nat} {f : α -> D} : Cl (slD e f) := ⟨fun _ c h => by simp only [slD, dcells, List.mem_singleton] at h; subst h; rfl⟩
theorem Cl.agg {α : Type} {f : α -> D} (g : α -> List D) (hf : ∀ x, f x = .agg (g x)) (h : ∀ x, (g x).all cellD = true) : Cl f := ⟨fun x c hc => by
 rw [hf] at hc
 exact List.all_eq_true.1 (h x) c hc⟩
section
variable {α : Type} {f : α -> D} {e n id : Nat} {s : Sto} {xs ys : List α}
variable [Inhabited α] {i k : Nat}
end
attribute [go_sem] rens_append'
def eD {α : Type} (f : α -> D) (M : List (Lit × α)) : List (Lit × D) := M.map fun p => (p.1, f p.2)
section
variable {α : Type} {f : α -> D} {M : List (Lit × α)} {kl : Lit} {x : α}
theorem eD_nil : eD f [] = [] := rfl
theorem eD_cons : eD f ((kl, x) :: M) = (kl, f x) :: eD f M := rfl
theorem eD_len : (eD f M).length = M.length := by simp [eD]
theorem mget_eD : mget (eD f M) kl = (mget M kl).map f := by
 induction M with
 | nil => rfl
 | cons p r ih =>
  obtain ⟨k, y⟩ := p
  rw [eD_cons]
  simp only [mget]
  split
  ·rfl
  ·exact ih
theorem mdel_eD : mdel kl (eD f M) = eD f (mdel kl M) := by
 unfold mdel eD
 rw [List.filter_map]
 rfl
end
theorem getD_bool {o : Option Bool} : (Option.map bD o).getD (.lit (.bool false)) = bD (o.getD false) := by cases o <;> rfl
theorem isSome_map {α β : Type} {f : α -> β} {o : Option α} : (Option.map f o).isSome = o.isSome := by cases o <;> rfl
theorem MLe_refl_t {es : List (Lit × D)} : MLe es es ↔ True := ⟨fun _ => trivial, fun _ => .refl _⟩
theorem cells_mp {id : Nat} : AV.cells (.mp id) = some [.mp id] := rfl
theorem undo_mp {id : Nat} {xs : List AV} : AV.undo (.mp id :: xs) = none := rfl
theorem isAggD_lit {v : Value} : isAggD (.lit v) = false := rfl
theorem isAggD_sl {e : Nat} {nl : Option Bool} {xs : List D} : isAggD (.sl e nl xs) = false := rfl
theorem isAggD_slD {α : Type} {e : Nat} {f : α -> D} {xs : List α} : isAggD (slD e f xs) = false := rfl
attribute [go_sem] eD_nil eD_cons eD_len mget_eD mdel_eD getD_bool isSome_map MLe_refl_t cells_mp undo_mp isAggD_lit isAggD_sl isAggD_slD
def pvR (id : Nat) (ds : List D) : AV -> AV
 | .ptr j off => if j = id then .pv (ds.drop off) else .ptr j off
 | x => x
def sref : AV -> Bool
 | .ptr _ _ => true
 | .pv _ => true
 | .d _ => true
 | _ => false
def isDat : AV -> Bool
 | .d _ => true
 | _ => false
def dobj : Ob -> Bool
 | .obj _ cs => cs.all isDat
 | .dead => true
 | _ => false
theorem rens_data {ρ : Nat -> Option Nat} : ∀ {cs : List AV}, cs.all isDat = true -> AV.rens ρ cs = cs
 | [], _ => rfl
 | x :: xs, h => by
  rw [List.all_cons, Bool.and_eq_true] at h
  have ih := rens_data (ρ := ρ) h.2
  cases x with
  | d y => simp only [AV.rens, AV.ren, ih]
  | _ => exact absurd h.1 (by simp [isDat])
theorem dobj_sat {rest : Sto} (hr : rest.all (fun p => dobj p.2) = true) (j : Nat) : dobj (sat rest j) = true := by
 induction rest with
 | nil => rfl
 | cons p r ih =>
  rw [List.all_cons, Bool.and_eq_true] at hr
  simp only [sat]
  split
  ·exact hr.1
  ·exact ih hr.2
theorem kill_dobj {id : Nat} {o : Ob} (h : dobj o = true) : o.kill id = o := by
 cases o <;> simp [dobj] at h
 ·rfl
 ·rename_i t cs; simp only [Ob.kill]; rw [rens_data (by rw [List.all_eq_true]; exact h)]
theorem ACalls.pvs {P : Program} {f : Nat} {args : List AV} {g id t : Nat} {caps : List AV} {ds : List D} {rest : Sto} (h : ACalls P f args [] 0 fun x s' => x = .fn g [] caps /\ s' = (id, .obj t (ds.map .d)) :: rest)
 (hc : caps.all sref = true) (hr : rest.all (fun p => dobj p.2) = true) (hd : sat rest id = .dead) : ACalls P f args [] 0 fun x s' => x = .fn g [] (caps.map (pvR id ds)) /\ s' = rest := fun C vs hs hk hinv hargs => by
 refine (h C vs hs hk hinv hargs).mono fun e w' ⟨v, x, β', s', he, hi, hx, hxe, hse⟩ => ?_
 subst hxe hse
 have ho := hi.obs id
 simp only [sat, if_true] at ho
 obtain ⟨b, us, hb, hh, hone, pre, rst, hus, hpre⟩ := ho
 have hob := dobj_sat hr
 have hsat : ∀ j, sat (skill id ((id, Ob.obj t (ds.map .d)) :: rest)) j = sat rest j := fun j => by
  rw [sat_skill]
  by_cases hj : j = id
  ·subst hj; simp [hd]
  ·simp only [hj, if_false, sat]; exact kill_dobj (hob j)
 obtain ⟨h2, hf⟩ := (hi.kill id (by rw [hk]; exact Nat.zero_le _)).told (s' := rest) fun j => by rw [hsat j]; exact ObLe.refl _
 have hsub : ∀ b o, C.forb (bset β' id .no) rest b o -> C.forb β' ((id, Ob.obj t (ds.map .d)) :: rest) b o := fun b o ho => by
  rw [hf] at ho
  exact ho.imp (fun h => h) own_kill
 have hblk : blockOf β' ((id, Ob.obj t (ds.map .d)) :: rest) id b := by simp only [blockOf, sat, if_true]; exact hb
 have hnot : ∀ o, ¬ C.forb (bset β' id .no) rest b o := fun o ho => by
  rcases ho with ho | ho
  ·have h1 := hi.low b o ho
   have hown : own β' ((id, .obj t (ds.map .d)) :: rest) b o := ⟨id, by simp only [sat, if_true]; exact hb⟩
   rcases hi.ownd b o hown with h3 | h3
   ·exact h1.2 h3
   ·omega
  ·obtain ⟨j, hj⟩ := ho.block
   have hj1 : blockOf β' ((id, Ob.obj t (ds.map .d)) :: rest) j b /\ j ≠ id := by
    have hji : j ≠ id := fun e => by subst e; unfold blockOf at hj; rw [hd] at hj; exact hj
    refine ⟨?_, hji⟩
    have := blockOf_kill (β := β') (s := (id, Ob.obj t (ds.map .d)) :: rest) (id := id) (i := j) (b := b) (by
     unfold blockOf at hj ⊢
     rw [hsat]; exact hj)
    exact this
   exact hj1.2 (hi.inj j id b hj1.1 hblk)
 simp only [AV.ok, AV.oks] at hx
 obtain ⟨fs, cs, rfl, hfs, hcs⟩ := hx
 refine ⟨_, _, _, _, he, h2, ?_, rfl, rfl⟩
 simp only [AV.ok, AV.oks]
 refine ⟨fs, cs, rfl, hfs, ?_⟩
 have dm : ∀ {x : D} {u : Value}, D.ok (C.forb β' ((id, Ob.obj t (ds.map .d)) :: rest)) w' x u -> D.ok (C.forb (bset β' id .no) rest) w' x u := fun {x u} hx => D.ok_mono (fun b o v hc hn' => ⟨hc, fun h => hn' (hsub b o h)⟩) _ _ hx
 have key : ∀ (caps : List AV) (us' : List Value), caps.all sref = true -> AV.oks β' (C.forb β' ((id, Ob.obj t (ds.map .d)) :: rest)) w' caps us' -> AV.oks (bset β' id .no) (C.forb (bset β' id .no) rest) w' (caps.map (pvR id ds)) us' := by
  intro caps
  induction caps with
  | nil => intro us' _ h; simpa [AV.oks] using h
  | cons x xs ih =>
   intro us' hc h
   simp only [List.all_cons, Bool.and_eq_true] at hc
   simp only [List.map_cons, AV.oks] at h ⊢
   obtain ⟨u, r, rfl, h3, h4⟩ := h
   refine ⟨u, r, rfl, ?_, ih r hc.2 h4⟩
   cases x <;> simp [sref] at hc
   ·rename_i d; simp only [pvR, AV.ok] at h3 ⊢; exact dm h3
   ·rename_i j off
    simp only [pvR]
    simp only [AV.ok] at h3
    obtain ⟨b2, hb2, rfl⟩ := h3
    by_cases hj : j = id
    ·subst hj
     rw [hb] at hb2
     cases hb2
     simp only [if_true, AV.ok]
     have hl := AV.oks_length hpre
     have hp2 := (AV.oks_iff.1 hpre).2
     refine ⟨b, off, pre.drop off, rfl, fun q u hq => ?_, ?_⟩
     ·rw [List.getElem?_drop] at hq
      have hq2 : us.toList[off + q]? = some u := by rw [hus, List.getElem?_append_left (List.getElem?_eq_some_iff.1 hq).1]; exact hq
      refine ⟨?_, hnot _, hone u (List.mem_of_getElem? hq2)⟩
      simp only [World.cell?, hh, Option.isSome_none, Bool.false_eq_true, if_false]
      simpa using hq2
     ·refine D.oks_iff.2 ⟨by simp at hl; simp [hl], fun q x u hx hu => ?_⟩
      rw [List.getElem?_drop] at hx hu
      have hu2 : us.toList[off + q]? = some u := by rw [hus, List.getElem?_append_left (List.getElem?_eq_some_iff.1 hu).1]; exact hu
      refine ⟨hone u (List.mem_of_getElem? hu2), ?_⟩
      have := hp2 (off + q) (.d x) u (by rw [List.getElem?_map, hx]; rfl) hu
      simp only [AV.ok] at this
      exact dm this
    ·simp only [hj, if_false, AV.ok]
     exact ⟨b2, by simpa [bset, hj] using hb2, rfl⟩
   ·rename_i cs2
    simp only [pvR]
    simp only [AV.ok] at h3 ⊢
    obtain ⟨b2, o2, vs2, rfl, k1, k2⟩ := h3
    exact ⟨b2, o2, vs2, rfl, k1.mono (fun b o v hc hn' => ⟨hc, fun h => hn' (hsub b o h)⟩), D.oks_mono (fun b o v hc hn' => ⟨hc, fun h => hn' (hsub b o h)⟩) _ _ k2⟩
 exact key caps cs.toList hc hcs
section
variable {P : Program} {k : Nat} {Q : Post} {env : List AV} {s : Sto}
theorem m_fwd2 {α σ β : Type} [Inhabited α] {f : Nat × σ -> Option ((Nat × σ) ⊕ β)} {s0 : σ} {b : β} (hb : loopC f (0, s0) = some b) {g : Operand} {p1 p2 : Nat} {x y : MCode} {gf : Nat} {caps : List AV} {e1 e2 : α -> D} {xs : List α}
 (it : Iter P gf caps (xs.map fun x => [e1 x, e2 x])) (K : Nat) (S : σ -> Sto) (hw : Weak k env s env (S s0))
 (round : ∀ j p t, j < xs.length -> f (j, p) = some t -> (∀ b', t = .inr b' -> b' = b) ->
  vcm P K x (thenQ (vcm P K y (rngQ K env S (fun p' => t = .inl (j + 1, p')) Q)) fun _ _ _ => False) (putAll env [(p1, .d (e1 (xs.getD j default))), (p2, .d (e2 (xs.getD j default)))]) (S p))
 (done : ∀ p t, f (xs.length, p) = some t -> (∀ b', t = .inr b' -> b' = b) -> Q .normal env (S p))
 (hg : ev env g = .fn gf [] caps := by rfl) (hK : k <= K := by omega) (hfix : AV.rens (keepρ K) env = env := by rfl) (hflat : (x.flat && y.flat) = true := by rfl) : MWp P k (.rng g [p1, p2] x y) Q env s := by
 rw [Bool.and_eq_true] at hflat
 have hget : ∀ i, i < xs.length -> (xs.map fun x => [e1 x, e2 x]).getD i [] = [e1 (xs.getD i default), e2 (xs.getD i default)] := fun i hi => by
  simp [List.getD_eq_getElem?_getD, List.getElem?_map, List.getElem?_eq_getElem hi]
 refine m_rngF hb K hK hfix hflat hg it (fun i hi => ?_) S hw (fun j p t hj ht hbt => ?_) (fun p t ht hbt => done p t (by rwa [List.length_map] at ht) hbt)
 ·rw [List.length_map] at hi; rw [hget i hi]; rfl
 ·rw [List.length_map] at hj
  rw [hget j hj]
  refine (vcm_sound (round j p t hj ht hbt)).mono fun e env' s' hq => ?_
  cases e with
  | normal => exact vcm_sound hq
  | _ => exact hq
end
end Abx
namespace Abx
open Go
theorem grow_nil {P : Program} {ρ : Go.Shelf.Ren} (L : Go.Proofs.Lays8.n4 P ρ) {i0 : TypeInfo} {z : Value} (hi0 : P.info? (ρ.t 25) = some i0) (hz0 : i0.zero = some z) (hs0 : 0 < i0.size) (hb0 : 0 < i0.bytes)
 (hz1 : z.cells.size = i0.size) (hz2 : ∀ v ∈ z.cells.toList, one v = true) {n : Int} (h0 : 0 <= n) (hb : n * i0.bytes <= 140737488355328) :
 ACalls P (ρ.f 4) [.d (.sl 0 (some true) []), .d (iD n)] [] 0 fun x s' => x = .own i0.size 0 [] /\ s' = [(0, .tok (ρ.t 25) i0.size 0)] := fun C vs hs hk hinv hargs => by
 obtain ⟨m, rfl⟩ := Int.eq_ofNat_of_zero_le h0
 have hst : St C C.β [] C.s { tmps := #[], defers := [] } C.w := ⟨.nil, hinv, rfl, fun i x hx => by simp at hx⟩
 have hvs : vs = #[.slice none 0 0, .int .i64 m] := by
  simp only [AV.oks, AV.ok] at hargs
  obtain ⟨v, r, h1, h2, v2, r2, h3, h4, h5⟩ := hargs
  have h2 := nil_ok h2
  have h4 := lit_ok (β := C.β) (O := C.forb C.β C.s) (w := C.w) (by simp only [AV.ok]; exact h4)
  subst h2 h4 h5 h3
  exact Array.ext' (by simpa [nilV0] using h1)
 subst hvs
 have hd : sat C.s 0 = .dead := by rw [hs]; rfl
 rcases Nat.eq_zero_or_pos m with rfl | hm
 ·refine (Go.Proofs.Any8.slices_Grow_room L none 0 0 0 C.w (Nat.le_refl _) (by omega) (by omega) (by omega)).mono ?_
  rintro e w' ⟨rfl, rfl⟩
  obtain ⟨h1, _⟩ := hst.tokNil (id := 0) (t := ρ.t 25) (e := i0.size) hd
  rw [hs] at h1
  exact ⟨_, .own i0.size 0 [], _, _, rfl, h1.inv, own_nil (by simp [bset]), rfl, rfl⟩
 ·have hmb : m * i0.bytes <= 140737488355328 := by
   have : ((m * i0.bytes : Nat) : Int) <= 140737488355328 := by simpa using hb
   omega
  have hm47 : m <= 140737488355328 := Nat.le_trans (Nat.le_mul_of_pos_right _ hb0) hmb
  refine (Go.Proofs.Any8.slices_Grow_grow L i0 z hi0 hz0 hs0 none 0 0 m [] C.w (Nat.le_refl _) (by omega) (by simpa using hmb) (by omega) (by simp) (by simp) (by simp)).mono ?_
  rintro e w' ⟨rfl, rfl⟩
  have hcap1 := grownCap_ge C.w (0 + m) 0 (ρ.t 25)
  have hcap2 := grownCap_le_maxLen C.w (0 + m) 0 (ρ.t 25) (by unfold Go.maxLen; omega)
  obtain ⟨β', h1, h2⟩ := own_of_new hst.drew (id := 0) (t := ρ.t 25) (e := i0.size) (n := 0) (cap := grownCap C.w (0 + m) 0 (ρ.t 25))
   (c := ([] : List Value).toArray ++ Builtin.zeroCells z.cells (0 + m - 0) ++ Builtin.zeroCells z.cells (grownCap C.w (0 + m) 0 (ρ.t 25) - (0 + m))) (xs := [])
   (by have := hst.inv.obs 0; rw [hd] at this; rw [show C.β 0 = .no from this]; trivial)
   (by
    rw [Array.size_append, Array.size_append, size_zeroCells, size_zeroCells, hz1]
    simp only [List.size_toArray, List.length_nil, Nat.zero_add, Nat.sub_zero]
    rw [<- Nat.add_mul]
    congr 1
    simp only [Nat.zero_add] at hcap1
    omega)
   (Nat.zero_le _) (by unfold Go.maxLen at hcap2; omega)
   (fun v hv => by
    simp only [Array.toList_append, List.mem_append] at hv
    rcases hv with (hv | hv) | hv
    ·simp at hv
    ·exact zeroCells_one hz2 _ v hv
    ·exact zeroCells_one hz2 _ v hv)
   rfl (fun _ _ _ _ => by simp [D.row])
  rw [hs] at h1 h2
  exact ⟨_, .own i0.size 0 [], β', _, rfl, h1.inv, h2, rfl, rfl⟩
end Abx
/-
 DERIVED: THE SHELF's CONTRACTS AT THIS DUMP, IN PLAIN WORDS (tools/lay-plain.mjs out of 'YtglpjlpmijfocaaGreatLay.lean', which tools/lay-shelf.mjs wrote): THE SAME DECLARATIONS UNDER THE SAME NAMES: 'import', 'namespace', 'open', 'def', 'theorem' AND NOTHING ELSE: no command of the shelf's: FOR A HAND-IN. Each laying: the table of numbers ('.._ren') and one theorem, a field a fact of the dump's own or the kernel's comparison; each contract: ONE APPLICATION.
-/
namespace Go.Proofs
open Go.Shelf
def Tryz.grow80_ren : Go.Shelf.Ren := ⟨fun | 4 => 80 | n => n, fun | 22 => 22 | 25 => 2 | 3 => 3 | 4 => 4 | 9 => 9 | 20 => 20 | 0 => 0 | n => n, fun | n => n⟩
theorem Tryz.grow80 : Go.Proofs.Lays8.n4 Tryz.prog Tryz.grow80_ren := {
 mixed := by kernel_rfl
 f4 := ⟨Tryz.f80.name, by decide, Tryz.func80.trans (congrArg some (by kernel_rfl))⟩
 t0 := Tryz.underlying0
 a0 := Tryz.isAgg0
 z0 := Tryz.sizeOf0
 v0 := Tryz.zeroValue0
 t3 := Tryz.underlying3
 a3 := Tryz.isAgg3
 z3 := Tryz.sizeOf3
 v3 := Tryz.zeroValue3
 t4 := Tryz.underlying4
 a4 := Tryz.isAgg4
 z4 := Tryz.sizeOf4
 v4 := Tryz.zeroValue4
 t9 := Tryz.underlying9
 a9 := Tryz.isAgg9
 z9 := Tryz.sizeOf9
 v9 := Tryz.zeroValue9
 t20 := Tryz.underlying20
 a20 := Tryz.isAgg20
 z20 := Tryz.sizeOf20
 v20 := Tryz.zeroValue20
 t22 := Tryz.underlying22
 a22 := Tryz.isAgg22
 z22 := Tryz.sizeOf22
 v22 := Tryz.zeroValue22 }
def Tryz.lays169_ren : Go.Shelf.Ren := ⟨fun | 169 => 100 | n => n, fun | 70 => 130 | 9 => 9 | 0 => 0 | 72 => 132 | 37 => 37 | 127 => 166 | 3 => 3 | 5 => 5 | n => n, fun | n => n⟩
theorem Tryz.lays169 : Go.Proofs.Lays.n169 Tryz.prog Tryz.lays169_ren := {
 mixed := by kernel_rfl
 f169 := Tryz.func100.trans (congrArg some (by kernel_rfl))
 t0 := Tryz.underlying0
 a0 := Tryz.isAgg0
 z0 := Tryz.sizeOf0
 v0 := Tryz.zeroValue0
 t3 := Tryz.underlying3
 a3 := Tryz.isAgg3
 z3 := Tryz.sizeOf3
 v3 := Tryz.zeroValue3
 t9 := Tryz.underlying9
 a9 := Tryz.isAgg9
 z9 := Tryz.sizeOf9
 v9 := Tryz.zeroValue9
 t37 := Tryz.underlying37
 a37 := Tryz.isAgg37
 z37 := Tryz.sizeOf37
 v37 := Tryz.zeroValue37
 t70 := Tryz.underlying130
 a70 := Tryz.isAgg130
 z70 := Tryz.sizeOf130
 v70 := Tryz.zeroValue130
 t72 := Tryz.underlying132
 a72 := Tryz.isAgg132
 z72 := Tryz.sizeOf132
 v72 := Tryz.zeroValue132
 t127 := Tryz.underlying166
 a127 := Tryz.isAgg166
 z127 := Tryz.sizeOf166
 v127 := Tryz.zeroValue166 }
theorem Tryz.Builder_Extra_169 : Builder.Extra Tryz.prog Tryz.lays169_ren := {
 sizeBuilder := by kernel_rfl
 liesBuilder := by kernel_rfl
 t5 := Tryz.underlying5
 a5 := Tryz.isAgg5
 z5 := Tryz.sizeOf5
 v5 := Tryz.zeroValue5
 infoByte := by kernel_rfl
 cellsByte := by kernel_rfl
 sizeByte := by kernel_rfl
 neB5 := by decide }
open Go.RowKit in
theorem Tryz.Builder_String_any_k (B b : Nat) (l : List UInt8) (w : World) (h : Lib.IsBuilderF 132 5 B b (Lib.byteCells l) w) (hBw : B <= w.heap.size) :
 Calls Tryz.prog 100 #[.pointer (some ⟨b, 0, none⟩)] w fun e w' => e = .returned (.string ⟨l.toArray⟩) /\ (Lib.IsBuilderF 132 5 B b (Lib.byteCells l) w' /\ Below B w w' /\ Lib.OthersKept 5 (some b) w w') := Any.Builder_String_any_k Tryz.lays169 Tryz.Builder_Extra_169 B b l w h hBw
def Tryz.laysSlF6_f52_ren : Go.Shelf.Ren := ⟨fun | 6 => 52 | 15 => 82 | 14 => 81 | 28 => 115 | 29 => 116 | 20 => 107 | 21 => 108 | 22 => 109 | 23 => 110 | 24 => 111 | 25 => 112 | 26 => 113 | 27 => 114 | 46 => 141 | 47 => 142 | 48 => 143 | 49 => 144 | 50 => 145 | 57 => 166 | n => n, fun | 22 => 44 | 24 => 22 | 25 => 79 | 3 => 3 | 39 => 69 | 0 => 0 | 53 => 152 | 55 => 41 | 4 => 4 | 46 => 145 | 45 => 144 | 50 => 149 | 5 => 5 | 9 => 9 | 66 => 177 | 70 => 181 | 76 => 202 | 77 => 203 | n => n, fun | n => n⟩
theorem Tryz.laysSlF6_f52 : Go.Proofs.SlLaysF.n6 Tryz.prog Tryz.laysSlF6_f52_ren := {
 mixed := by kernel_rfl
 f6 := ⟨Tryz.f52.name, by decide, Tryz.func52.trans (congrArg some (by kernel_rfl))⟩
 f14 := ⟨Tryz.f81.name, by decide, Tryz.func81.trans (congrArg some (by kernel_rfl))⟩
 f15 := Tryz.func82.trans (congrArg some (by kernel_rfl))
 f20 := ⟨Tryz.f107.name, by decide, Tryz.func107.trans (congrArg some (by kernel_rfl))⟩
 f21 := ⟨Tryz.f108.name, by decide, Tryz.func108.trans (congrArg some (by kernel_rfl))⟩
 f22 := ⟨Tryz.f109.name, by decide, Tryz.func109.trans (congrArg some (by kernel_rfl))⟩
 f23 := ⟨Tryz.f110.name, by decide, Tryz.func110.trans (congrArg some (by kernel_rfl))⟩
 f24 := ⟨Tryz.f111.name, by decide, Tryz.func111.trans (congrArg some (by kernel_rfl))⟩
 f25 := ⟨Tryz.f112.name, by decide, Tryz.func112.trans (congrArg some (by kernel_rfl))⟩
 f26 := ⟨Tryz.f113.name, by decide, Tryz.func113.trans (congrArg some (by kernel_rfl))⟩
 f27 := ⟨Tryz.f114.name, by decide, Tryz.func114.trans (congrArg some (by kernel_rfl))⟩
 f28 := Tryz.func115.trans (congrArg some (by kernel_rfl))
 f29 := Tryz.func116.trans (congrArg some (by kernel_rfl))
 f46 := ⟨Tryz.f141.name, by decide, Tryz.func141.trans (congrArg some (by kernel_rfl))⟩
 f47 := Tryz.func142.trans (congrArg some (by kernel_rfl))
 f48 := Tryz.func143.trans (congrArg some (by kernel_rfl))
 f49 := ⟨Tryz.f144.name, by decide, Tryz.func144.trans (congrArg some (by kernel_rfl))⟩
 f50 := ⟨Tryz.f145.name, by decide, Tryz.func145.trans (congrArg some (by kernel_rfl))⟩
 f57 := ⟨Tryz.f166.name, by decide, Tryz.func166.trans (congrArg some (by kernel_rfl))⟩
 t0 := Tryz.underlying0
 a0 := Tryz.isAgg0
 z0 := Tryz.sizeOf0
 v0 := Tryz.zeroValue0
 t3 := Tryz.underlying3
 a3 := Tryz.isAgg3
 z3 := Tryz.sizeOf3
 v3 := Tryz.zeroValue3
 t4 := Tryz.underlying4
 a4 := Tryz.isAgg4
 z4 := Tryz.sizeOf4
 v4 := Tryz.zeroValue4
 t5 := Tryz.underlying5
 a5 := Tryz.isAgg5
 z5 := Tryz.sizeOf5
 v5 := Tryz.zeroValue5
 t9 := Tryz.underlying9
 a9 := Tryz.isAgg9
 z9 := Tryz.sizeOf9
 v9 := Tryz.zeroValue9
 t22 := Tryz.underlying44
 a22 := Tryz.isAgg44
 z22 := Tryz.sizeOf44
 v22 := Tryz.zeroValue44
 a24 := Tryz.isAgg22
 z24 := Tryz.sizeOf22
 t25 := Tryz.underlying79
 a25 := Tryz.isAgg79
 z25 := Tryz.sizeOf79
 v25 := Tryz.zeroValue79
 t39 := Tryz.underlying69
 a39 := Tryz.isAgg69
 z39 := Tryz.sizeOf69
 v39 := Tryz.zeroValue69
 t45 := Tryz.underlying144
 a45 := Tryz.isAgg144
 z45 := Tryz.sizeOf144
 v45 := Tryz.zeroValue144
 t46 := Tryz.underlying145
 a46 := Tryz.isAgg145
 z46 := Tryz.sizeOf145
 v46 := Tryz.zeroValue145
 t50 := Tryz.underlying149
 a50 := Tryz.isAgg149
 z50 := Tryz.sizeOf149
 v50 := Tryz.zeroValue149
 t53 := Tryz.underlying152
 a53 := Tryz.isAgg152
 z53 := Tryz.sizeOf152
 v53 := Tryz.zeroValue152
 t55 := Tryz.underlying41
 a55 := Tryz.isAgg41
 z55 := Tryz.sizeOf41
 v55 := Tryz.zeroValue41
 t66 := Tryz.underlying177
 a66 := Tryz.isAgg177
 z66 := Tryz.sizeOf177
 v66 := Tryz.zeroValue177
 t70 := Tryz.underlying181
 a70 := Tryz.isAgg181
 z70 := Tryz.sizeOf181
 v70 := Tryz.zeroValue181
 t76 := Tryz.underlying202
 a76 := Tryz.isAgg202
 z76 := Tryz.sizeOf202
 v76 := Tryz.zeroValue202
 t77 := Tryz.underlying203
 a77 := Tryz.isAgg203
 z77 := Tryz.sizeOf203
 v77 := Tryz.zeroValue203 }
open Go.RowKit Go.Lib Go.Sort in
theorem Tryz.slices_SortFunc {α : Type} [Inhabited α] (enc : α -> Value) (h1 : OneCell enc) (cf : α -> α -> Int) (hO : SWO (ltOf cf)) (g : Nat) (cb : Array Value) (blk off cap : Nat) (d : Array α) (w : World) (eg : ∀ args w, (callFunc g args).run Tryz.prog w = .ok (.enter g args) w) (hcmp : CmpLays1 Tryz.prog g cb enc cf blk off d.size w) (hH : Holds enc w blk off d) (hblk : blk < w.heap.size) (hsz : d.size < 4611686018427387904) :
 Calls Tryz.prog 52 #[.slice (some ⟨blk, off, none⟩) d.size cap, .func (.func g) #[] cb] w fun e w' =>
  e = .returned (.tuple #[]) /\ ∃ d' n os, PermIn 0 d.size d d' /\ SortedIn (ltOf cf) 0 d.size d' /\ w' = sortWorld enc w blk off n d' os := Any.slices_SortFunc Tryz.laysSlF6_f52 enc h1 cf hO g cb blk off cap d w eg hcmp hH hblk hsz
def Tryz.laysSlF06_f52_ren : Go.Shelf.Ren := ⟨fun | 6 => 52 | 15 => 82 | 14 => 81 | 28 => 115 | 29 => 116 | 20 => 107 | 21 => 108 | 22 => 109 | 23 => 110 | 24 => 111 | 25 => 112 | 26 => 113 | 27 => 114 | 46 => 141 | 47 => 142 | 48 => 143 | 49 => 144 | 50 => 145 | 57 => 166 | n => n, fun | 22 => 44 | 24 => 22 | 25 => 79 | 3 => 3 | 39 => 69 | 0 => 0 | 53 => 152 | 55 => 41 | 4 => 4 | 46 => 145 | 45 => 144 | 50 => 149 | 5 => 5 | 9 => 9 | 66 => 177 | 70 => 181 | 76 => 202 | 77 => 203 | n => n, fun | n => n⟩
theorem Tryz.laysSlF06_f52 : Go.Proofs.SlLaysF0.n6 Tryz.prog Tryz.laysSlF06_f52_ren := {
 mixed := by kernel_rfl
 f6 := ⟨Tryz.f52.name, by decide, Tryz.func52.trans (congrArg some (by kernel_rfl))⟩
 f14 := ⟨Tryz.f81.name, by decide, Tryz.func81.trans (congrArg some (by kernel_rfl))⟩
 f15 := Tryz.func82.trans (congrArg some (by kernel_rfl))
 f20 := ⟨Tryz.f107.name, by decide, Tryz.func107.trans (congrArg some (by kernel_rfl))⟩
 f21 := ⟨Tryz.f108.name, by decide, Tryz.func108.trans (congrArg some (by kernel_rfl))⟩
 f22 := ⟨Tryz.f109.name, by decide, Tryz.func109.trans (congrArg some (by kernel_rfl))⟩
 f23 := ⟨Tryz.f110.name, by decide, Tryz.func110.trans (congrArg some (by kernel_rfl))⟩
 f24 := ⟨Tryz.f111.name, by decide, Tryz.func111.trans (congrArg some (by kernel_rfl))⟩
 f25 := ⟨Tryz.f112.name, by decide, Tryz.func112.trans (congrArg some (by kernel_rfl))⟩
 f26 := ⟨Tryz.f113.name, by decide, Tryz.func113.trans (congrArg some (by kernel_rfl))⟩
 f27 := ⟨Tryz.f114.name, by decide, Tryz.func114.trans (congrArg some (by kernel_rfl))⟩
 f28 := Tryz.func115.trans (congrArg some (by kernel_rfl))
 f29 := Tryz.func116.trans (congrArg some (by kernel_rfl))
 f46 := ⟨Tryz.f141.name, by decide, Tryz.func141.trans (congrArg some (by kernel_rfl))⟩
 f47 := Tryz.func142.trans (congrArg some (by kernel_rfl))
 f48 := Tryz.func143.trans (congrArg some (by kernel_rfl))
 f49 := ⟨Tryz.f144.name, by decide, Tryz.func144.trans (congrArg some (by kernel_rfl))⟩
 f50 := ⟨Tryz.f145.name, by decide, Tryz.func145.trans (congrArg some (by kernel_rfl))⟩
 f57 := ⟨Tryz.f166.name, by decide, Tryz.func166.trans (congrArg some (by kernel_rfl))⟩
 t0 := Tryz.underlying0
 a0 := Tryz.isAgg0
 z0 := Tryz.sizeOf0
 v0 := Tryz.zeroValue0
 t3 := Tryz.underlying3
 a3 := Tryz.isAgg3
 z3 := Tryz.sizeOf3
 v3 := Tryz.zeroValue3
 t4 := Tryz.underlying4
 a4 := Tryz.isAgg4
 z4 := Tryz.sizeOf4
 v4 := Tryz.zeroValue4
 t5 := Tryz.underlying5
 a5 := Tryz.isAgg5
 z5 := Tryz.sizeOf5
 v5 := Tryz.zeroValue5
 t9 := Tryz.underlying9
 a9 := Tryz.isAgg9
 z9 := Tryz.sizeOf9
 v9 := Tryz.zeroValue9
 t22 := Tryz.underlying44
 a22 := Tryz.isAgg44
 z22 := Tryz.sizeOf44
 v22 := Tryz.zeroValue44
 t25 := Tryz.underlying79
 a25 := Tryz.isAgg79
 z25 := Tryz.sizeOf79
 v25 := Tryz.zeroValue79
 t39 := Tryz.underlying69
 a39 := Tryz.isAgg69
 z39 := Tryz.sizeOf69
 v39 := Tryz.zeroValue69
 t45 := Tryz.underlying144
 a45 := Tryz.isAgg144
 z45 := Tryz.sizeOf144
 v45 := Tryz.zeroValue144
 t46 := Tryz.underlying145
 a46 := Tryz.isAgg145
 z46 := Tryz.sizeOf145
 v46 := Tryz.zeroValue145
 t50 := Tryz.underlying149
 a50 := Tryz.isAgg149
 z50 := Tryz.sizeOf149
 v50 := Tryz.zeroValue149
 t53 := Tryz.underlying152
 a53 := Tryz.isAgg152
 z53 := Tryz.sizeOf152
 v53 := Tryz.zeroValue152
 t55 := Tryz.underlying41
 a55 := Tryz.isAgg41
 z55 := Tryz.sizeOf41
 v55 := Tryz.zeroValue41
 t66 := Tryz.underlying177
 a66 := Tryz.isAgg177
 z66 := Tryz.sizeOf177
 v66 := Tryz.zeroValue177
 t70 := Tryz.underlying181
 a70 := Tryz.isAgg181
 z70 := Tryz.sizeOf181
 v70 := Tryz.zeroValue181
 t76 := Tryz.underlying202
 a76 := Tryz.isAgg202
 z76 := Tryz.sizeOf202
 v76 := Tryz.zeroValue202
 t77 := Tryz.underlying203
 a77 := Tryz.isAgg203
 z77 := Tryz.sizeOf203
 v77 := Tryz.zeroValue203 }
open Go.RowKit Go.Lib Go.Sort in
theorem Tryz.slices_SortFunc_none {α : Type} [Inhabited α] (p : Option Addr) (cap : Nat) (fv : Value) (w : World) :
 Calls Tryz.prog 52 #[.slice p 0 cap, fv] w fun e w' => e = .returned (.tuple #[]) /\ w' = w := AnyF.slices_SortFunc_none Tryz.laysSlF06_f52 p cap fv w
end Go.Proofs
namespace Go.Proofs.YtglpjlpmijfocaaGreat
open Go Abx
theorem mixedT : (Tryz.prog.follows .mixedOrders = true) = True := eq_true (by kernel_rfl)
attribute [go_sem] mixedT
instance : Inhabited ByteArray := ⟨ByteArray.empty⟩
end Go.Proofs.YtglpjlpmijfocaaGreat
namespace Go.Proofs.YtglpjlpmijfocaaGreat
open Go Abx Go.ChangeShapes Go.WideShapes Go.ChangeAt Go.RowKit
abbrev NoO : Abx.Own := fun _ _ => False
theorem pure_belowN {P : Program} {f : Nat} {ds : List D} {r : D} (h : PFun P f ds r) {W : World} {vs : Array Value} (h1 : ∀ v ∈ vs.toList, True) (hd : AV.oks (fun _ => .no) NoO W (ds.map .d) vs.toList) :
 Calls P f vs W fun e W' => (∃ u, e = .returned u /\ D.ok NoO W' r u) /\ Below W.heap.size W W' := by
 have no : ∀ (b o : Nat), ¬ ({ O := fun _ _ => False, β := fun _ => .no, s := [], w := W, k := 0 } : Ctx).forb (fun _ => .no) [] b o := fun b o h => by
  rcases h with h | ⟨i, h⟩
  ·exact h
  ·exact h
 have hI : Inv { O := fun _ _ => False, β := fun _ => .no, s := [], w := W, k := 0 } (fun _ => .no) [] W :=
  ⟨Nat.le_refl _, rfl, fun _ _ _ h _ => h, fun _ _ _ => rfl, fun _ _ h => .inl h, fun id b h => .inl ⟨id, h⟩, fun _ h => absurd h (Nat.not_lt_zero _), fun _ _ h => h.elim, fun _ => rfl, fun _ _ _ h => h.elim⟩
 have ha : AV.oks (fun _ => .no) (({ O := fun _ _ => False, β := fun _ => .no, s := [], w := W, k := 0 } : Ctx).forb (fun _ => .no) []) W (ds.map .d) vs.toList := by
  have e : (({ O := fun _ _ => False, β := fun _ => .no, s := [], w := W, k := 0 } : Ctx).forb (fun _ => .no) []) = NoO := by
   funext b o
   exact propext ⟨fun h => no b o h, fun h => h.elim⟩
  rw [e]; exact hd
 refine (h { O := fun _ _ => False, β := fun _ => .no, s := [], w := W, k := 0 } vs rfl rfl hI ha).mono fun e W' hq => ?_
 obtain ⟨u, x, β', s', rfl, hi, hx, rfl⟩ := hq
 simp only [AV.ok] at hx
 refine ⟨⟨u, rfl, D.ok_mono (fun b o v hc _ => ⟨hc, fun h => h⟩) _ _ hx⟩, ?_⟩
 have hio := hi.io
 simp only [wio, Prod.mk.injEq] at hio
 exact ⟨hio.1, hio.2.2, hio.2.1, hi.size, fun k hk => hi.blks k hk fun id h => h⟩
theorem addr_add {b o i : Nat} : Addr.add ⟨b, o, none⟩ i = ⟨b, o + i, none⟩ := by
 by_cases h : i = 0
 ·simp [Addr.add, h]
 ·simp [Addr.add, h]
def Rd (P : Program) (t : TypeId) (e : Nat) {α : Type} (f : α -> D) (G : α -> Prop) : Prop :=
 P.cellsOf t = e /\ ∀ {H : Type} {enc : TypeId × Value -> H} {w : World} {spare : Nat -> Bool} {held : Bool} {n : Nat} {cs : List Value} {x : DataW H × List MemPlace},
  DataW.trod enc P w 0 spare held n t cs = some x -> ∃ y, G y /\ cs.length = e /\ (∀ v ∈ cs, Abx.one v = true) /\ D.oks NoO w (dcells (f y)) cs
theorem oks_append {O : Abx.Own} {w : World} : ∀ {xs ys : List D} {us vs : List Value}, D.oks O w xs us -> D.oks O w ys vs -> D.oks O w (xs ++ ys) (us ++ vs)
 | [], _, us, _, h, h2 => by simp only [D.oks] at h; subst h; exact h2
 | x :: xs, _, us, _, h, h2 => by
  simp only [D.oks] at h
  obtain ⟨v, r, rfl, h1, h3, h4⟩ := h
  simp only [List.cons_append, D.oks]
  exact ⟨v, _, rfl, h1, h3, oks_append h4 h2⟩
theorem Rd.intk {P : Program} {t : TypeId} {k : IntKind} (ht : P.underlying t = some (.int k)) (hm : P.cellsOf t = 1) : Rd P t 1 (kD k) (fun x => (Lit.int k x).wf = true) := ⟨hm, fun {H enc w spare held n cs x} hx => by
 obtain ⟨m, hm⟩ := DataW.trod_int ht hx
 obtain ⟨rfl, _, hw⟩ := hm
 exact ⟨m, hw, rfl, by simp [Abx.one], ⟨_, _, rfl, rfl, ⟨rfl, rfl⟩, rfl⟩⟩⟩
abbrev BigL {α : Type} (xs : List α) : Prop := xs.length < 9223372036854775808
theorem Rd.slice {P : Program} {t e : TypeId} {k : Nat} {α : Type} {f : α -> D} {G : α -> Prop} [Cel f k] (ht : P.underlying t = some (.slice e)) (hm : P.cellsOf t = 1) (hk : 0 < k) (h : Rd P e k f G) (hcel : ∀ y O w vs, D.oks O w (dcells (f y)) vs -> D.cel O w (f y) vs) :
 Rd P t 1 (slD k f) (fun xs => BigL xs /\ ∀ x ∈ xs, G x) := ⟨hm, fun {H enc w spare held n cs x} hx => by
 rcases DataW.trod_slice ht hx with ⟨rfl, _⟩ | ⟨a, len, cap, elems, rest, n', rfl, rfl, _, _, hl, hmx, hlen, hel, _, _⟩
 ·refine ⟨[], ⟨by show (0 : Nat) < 9223372036854775808; decide, fun x hx => (List.not_mem_nil hx).elim⟩, rfl, by simp [Abx.one], ⟨_, _, rfl, rfl, ?_, rfl⟩⟩
  simp only [slD, D.ok]
  exact ⟨none, 0, rfl, ⟨Nat.le_refl _, by decide⟩, trivial, .inl rfl⟩
 ·have hmx' : cap < 9223372036854775808 := by have : maxLen = 2 ^ 63 - 1 := rfl; omega
  have each : ∀ i, i < len -> ∃ y vs, G y /\ vs.length = k /\ (∀ v ∈ vs, Abx.one v = true) /\ D.oks NoO w (dcells (f y)) vs /\ ∀ j, j < k -> w.cell? ((a.add (i * k)).add j) = vs[j]? := by
   intro i hi
   have h1 := hel i hi
   rw [h.1, List.getElem?_eq_getElem (show i < elems.length by omega), Option.bind_eq_some_iff] at h1
   obtain ⟨vs, h2, h3⟩ := h1
   obtain ⟨y, g1, g2, g3, g4⟩ := h.2 h3
   obtain ⟨_, _, h5⟩ := World.cells?_some h2
   exact ⟨y, vs, g1, g2, g3, g4, h5⟩
  rcases Nat.eq_zero_or_pos len with h0 | hpos
  ·subst h0
   refine ⟨[], ⟨by show (0 : Nat) < 9223372036854775808; decide, fun x hx => (List.not_mem_nil hx).elim⟩, rfl, by simp [Abx.one], ⟨_, _, rfl, rfl, ?_, rfl⟩⟩
   simp only [slD, D.ok]
   exact ⟨some a, cap, rfl, ⟨hl, hmx'⟩, trivial, .inl rfl⟩
  have hs : a.spot = none := by
   obtain ⟨y, vs, _, g2, _, _, g5⟩ := each 0 hpos
   have h0 := g5 0 hk
   rw [List.getElem?_eq_getElem (show 0 < vs.length by omega)] at h0
   have := World.cell?_spot h0
   simpa [Addr.add] using this
  obtain ⟨b, o, sp⟩ := a
  simp only at hs
  subst hs
  have key : ∀ (m i : Nat), i + m = len -> ∃ ys : List α, ys.length = m /\ (∀ y ∈ ys, G y) /\ D.row NoO w b (o + i * k) k (ys.map f) := by
   intro m
   induction m with
   | zero => intro i _; exact ⟨[], rfl, fun y hy => (List.not_mem_nil hy).elim, by simp [D.row]⟩
   | succ m ih =>
    intro i hi
    obtain ⟨ys, y1, y2, y4⟩ := ih (i + 1) (by omega)
    obtain ⟨y, vs, g1, g2, g3, g4, g5⟩ := each i (by omega)
    refine ⟨y :: ys, by simp [y1], fun z hz => ?_, ?_⟩
    ·rcases List.mem_cons.1 hz with rfl | hz
     ·exact g1
     ·exact y2 z hz
    ·rw [List.map_cons]
     refine D.row_cons.2 ⟨⟨vs, g2, fun j v hj => ?_, hcel _ _ _ _ g4⟩, ?_⟩
     ·have hjk : j < k := by rw [<- g2]; exact (List.getElem?_eq_some_iff.1 hj).1
      have := g5 j hjk
      rw [hj] at this
      refine ⟨?_, fun h => h, g3 v (List.mem_of_getElem? hj)⟩
      rw [<- this, addr_add, addr_add]
     ·have := y4
      rwa [Nat.add_mul, Nat.one_mul, <- Nat.add_assoc] at this
  obtain ⟨ys, y1, y2, y4⟩ := key len 0 (by omega)
  refine ⟨ys, ⟨by show ys.length < 9223372036854775808; omega, y2⟩, rfl, by simp [Abx.one], ⟨_, _, rfl, rfl, ?_, rfl⟩⟩
  simp only [slD, D.ok]
  refine ⟨some ⟨b, o, none⟩, cap, by rw [List.length_map, y1], ⟨by rw [List.length_map]; omega, by omega⟩, trivial, ?_⟩
  exact .inr ⟨b, o, rfl, by simpa using y4⟩⟩
theorem Rd.cell {P : Program} {t : TypeId} {α : Type} {f : α -> D} {G : α -> Prop} (hr : Rd P t 1 f G) (hf : ∀ y, dcells (f y) = [f y]) {W : World} {v : Value} (hv : v.cells = #[v])
 {H : Type} {enc : TypeId × Value -> H} {spare : Nat -> Bool} {held : Bool} {d : DataW H} {p : List MemPlace} (h : DataW.Trod enc P W 0 spare held t v d p) : ∃ y, G y /\ D.ok NoO W (f y) v := by
 obtain ⟨fuel, hf'⟩ := h
 obtain ⟨y, g1, g2, g3, g4⟩ := hr.2 hf'
 refine ⟨y, g1, ?_⟩
 rw [hf, hv] at g4
 simp only [D.oks] at g4
 obtain ⟨u, r, e, _, g5, _⟩ := g4
 simp at e
 rw [e.1]; exact g5
end Go.Proofs.YtglpjlpmijfocaaGreat
namespace Go.Proofs.YtglpjlpmijfocaaGreat
open Go Abx
attribute [local irreducible] vcm vgo vdr vrun vdrun MWp GhostQ BrC BrO BrG BrD BrH AmbO callR callD drQ EnvLe StoLe
set_option maxHeartbeats 4000000
def D_impl_Sig (x : (List Int)) : D := .agg [(slD 1 iD) x]
def D_impl_Rule (x : ((List Int) × (List Int))) : D := .agg [(slD 1 iD) x.1, (slD 1 iD) x.2]
def D_impl_System (x : ((List Int) × (List ((List Int) × (List Int))))) : D := .agg [(slD 1 iD) x.1, (slD 2 D_impl_Rule) x.2]
instance : Cel D_impl_Sig 1 := ⟨fun _ => rfl⟩
instance : Cel D_impl_Rule 2 := ⟨fun _ => rfl⟩
instance : Cel D_impl_System 2 := ⟨fun _ => rfl⟩
attribute [go_sem] D_impl_Sig D_impl_Rule D_impl_System
def mc48 : MCode :=
 (.seq (.reg (sq 1 [bo 1 30 0, mb false])) (.seq (.seq (.reg (sq 5 [fa 0 1, ld 5, ln 6, bi .lss 7 1, mv 8] ++ sg 9 false 10 [fa 0 1, ld 10, ln 11, bi .gtr 12 8] ++ sq 14 [po 9 13])) (.cond (t0 14) (.seq (.reg (sq 2 [mb false])) .ret) .skip)) (.seq (.seq (.reg (sq 15 [fa 0 1, ld 15, ln 16, mi 0])) (.block 0 (.loop (.seq (.reg (sq 19 [bn .lss 18 17])) (.seq (.cond (t0 19) .skip (.exit 0)) (.seq (.block 1 (.seq (.reg (sq 20 [ix 1 16 18, ld 20] ++ sq 4 [mv 21])) (.seq (.reg (sq 22 [mv 4, bi .lss 22 0, mv 23] ++ sg 24 false 25 [mv 4, bi .gtr 25 3] ++ sq 27 [po 24 26])) (.cond (t0 27) (.seq (.reg (sq 2 [mb false])) .ret) .skip)))) (.reg (sq 28 [bi .add 18 1] ++ sq 18 [mv 28])))))))) (.seq (.reg (sq 2 [mb true])) .ret))))
theorem fn48 : MFn Tryz.prog 48 mc48 29 [.tmp 2] := ⟨_, Tryz.func48, by kernel_rfl, Tryz.ntmps48, by kernel_rfl⟩
def F_impl_SigOk_l1 (sig : (List Int)) : Int -> Option (Int ⊕ Bool)
 | v18 =>
  if (decide (v18 < (sig.length : Int))) = true then
   if 0 <= v18 /\ v18 < (sig.length : Int) then
    if (decide ((sig.getD v18.toNat default) < 0)) = true then
     Option.map Sum.inr (
      some false)
    else
     if (decide (3 < (sig.getD v18.toNat default))) = true then
      Option.map Sum.inr (
       some false)
     else
      some (.inl (IntKind.i64.wrap (v18 + 1)))
   else none
  else
   Option.map Sum.inr (
    some true)
def F_impl_SigOk (sig : (List Int)) : Option Bool :=
 if (decide ((sig.length : Int) < 1)) = true then
  some false
 else
  if (decide (8 < (sig.length : Int))) = true then
   some false
  else
   loopC (F_impl_SigOk_l1 sig) 0
instance c_impl_SigOk {sig : (List Int)} : HasC (F_impl_SigOk sig) fun rr => PFun Tryz.prog 48 [D_impl_Sig sig] (bD rr) := ⟨@fun rr h => by
 delta F_impl_SigOk at h
 refine fn48.pureL (vcm_sound ?_)
 delta mc48
 refine stp ?_
 refine iF h fun hc h => ?_
 refine iF h fun hc h => ?_
 refine m_lW h [2, 4, 18, 19, 20, 21, 22, 23, 24, 25, 26, 27, 28] (fun pp => [(18, .d (iD pp))]) (fun pp => [(1, .obj 30 [.d (slD 1 iD sig)])]) ?_
 rintro v18 t1 h hb1
 unfold F_impl_SigOk_l1 at h
 try dsimp only at h
 refine vcm_sound (stp ?_)
 exact aut⟩
def mc126 : MCode :=
 (.seq (.reg (sq 2 [mi 0])) (.seq (.seq (.reg (sq 5 [mv 0, ln 5, bi .lss 6 1])) (.cond (t0 7) (.reg (sq 8 [.dead] ++ s0 .dead)) .skip)) (.seq (.reg (sq 9 [mv 0, .ixa 1 (t0 9) (i0 0), ld 10] ++ sq 3 [mv 11])) (.seq (.seq (.reg (sq 4 [mi 1])) (.block 0 (.loop (.seq (.seq (.reg (sq 12 [mv 4, mv 0, ln 13, bn .lss 12 14])) (.cond (t0 15) .skip (.exit 0))) (.seq (.block 1 (.reg (sq 18 [mv 3, mv 0, mv 4, ix 1 19 20, ld 21, .min (t0 18) (t0 22)] ++ sq 3 [mv 23]))) (.reg (sq 16 [mv 4, bi .add 16 1] ++ sq 4 [mv 17]))))))) (.seq (.reg (sq 24 [mv 3] ++ sq 2 [mv 24])) .ret)))))
theorem fn126 : MFn Tryz.prog 126 mc126 25 [.tmp 2] := ⟨_, Tryz.func126, by kernel_rfl, Tryz.ntmps126, by kernel_rfl⟩
def F_slices_Min_int64_int64_l1 (x : (List Int)) : (Int × Int) -> Option ((Int × Int) ⊕ Int)
 | (m, i) =>
  if (decide (i < (x.length : Int))) = true then
   if 0 <= i /\ i < (x.length : Int) then
    some (.inl ((if (x.getD i.toNat default) < m then (x.getD i.toNat default) else m), (IntKind.i64.wrap (i + 1))))
   else none
  else
   Option.map Sum.inr (
    some m)
def F_slices_Min_int64_int64 (x : (List Int)) : Option Int :=
 if (decide ((x.length : Int) < 1)) = true then
  none
 else
  if 0 <= 0 /\ 0 < (x.length : Int) then
   loopC (F_slices_Min_int64_int64_l1 x) ((x.getD 0 default), 1)
  else none
instance c_slices_Min_int64_int64 {x : (List Int)} : HasC (F_slices_Min_int64_int64 x) fun rr => PFun Tryz.prog 126 [(slD 1 iD) x] (iD rr) := ⟨@fun rr h => by
 delta F_slices_Min_int64_int64 at h
 refine fn126.pureL (vcm_sound ?_)
 delta mc126
 refine stp ?_
 refine iF h fun hc h => ?_
 refine ndI h fun hp h => ?_
 refine m_lW h [3, 4, 12, 13, 14, 15, 16, 17, 18, 19, 20, 21, 22, 23] (fun pp => [(3, .d (iD pp.1)), (4, .d (iD pp.2))]) (fun pp => []) ?_
 rintro ⟨m, i⟩ t1 h hb1
 unfold F_slices_Min_int64_int64_l1 at h
 try dsimp only at h
 refine vcm_sound (stp ?_)
 exact aut⟩
def mc173 : MCode :=
 (.seq (.reg (sq 2 [bo 2 30 0] ++ sq 4 [mi 0])) (.seq (.seq (.reg (sq 5 [mv 1, bi .lss 5 0])) (.cond (t0 6) (.seq (.reg (sq 4 [mi 0])) .ret) .skip)) (.seq (.reg (sq 7 [fa 0 2, ld 7, mv 1, ix 1 8 9, ld 10] ++ sq 4 [mv 11])) .ret)))
theorem fn173 : MFn Tryz.prog 173 mc173 12 [.tmp 4] := ⟨_, Tryz.func173, by kernel_rfl, Tryz.ntmps173, by kernel_rfl⟩
def F_impl_arityAt (sig : (List Int)) (n : Int) : Option Int :=
 if (decide (n < 0)) = true then
  some 0
 else
  if 0 <= n /\ n < (sig.length : Int) then
   some (sig.getD n.toNat default)
  else none
instance c_impl_arityAt {sig : (List Int)} {n : Int} : HasC (F_impl_arityAt sig n) fun rr => PFun Tryz.prog 173 [D_impl_Sig sig, iD n] (iD rr) := ⟨@fun rr h => by
 delta F_impl_arityAt at h
 refine fn173.pureL (vcm_sound ?_)
 delta mc173
 refine stp ?_
 exact aut⟩
def mc167 : MCode :=
 (.seq (.reg (sq 2 [mi 0])) (.seq (.seq (.draw (sq 3 [mv 0, .nilc (t0 3), fa 2 4, ld 5, mv 0, .nilc (t0 7), fa 1 8, ld 9, ln 10, bn .geq 6 11, mv 12] ++ sg 13 false 14 [mv 0, .nilc (t0 14), fa 1 15, ld 16, mv 0, .nilc (t0 18), fa 2 19, ld 20, ix 1 17 21, ld 22, mv 0, .nilc (t0 24), fa 0 25, fa 0 26, ld 27, ln 28, bn .geq 23 29] ++ sq 31 [po 13 30]) [[], [0], [1], [2], [], [4], [5], [6], [7], [3, 8], [9], [10], [11, 10], [12, 10], [13, 10], [10], [15, 10], [16, 10], [17, 10], [14, 18, 10], [19, 10], [10], [21, 10], [22, 10], [23, 10], [24, 10], [25, 10], [20, 26, 10], [10, 27]]) (.cond (t0 31) (.seq (.reg (sq 2 [mi (-1)])) .ret) .skip)) (.seq (.reg (sq 32 [mv 0, .nilc (t0 32), fa 2 33, ld 34, bi .add 35 1, .nilc (t0 32), fa 2 37] ++ s0 (sr 1 38 36))) (.seq (.draw (sq 39 [mv 0, .nilc (t0 39), fa 0 40, la 1 41, mv 0, .nilc (t0 43), fa 1 44, ld 45, mv 0, .nilc (t0 47), fa 2 48, ld 49, bi .sub 50 1, ix 1 46 51, ld 52, cf 173 [42, 53]] ++ sq 2 [mv 54]) [[], [0], [1], [2], [], [4], [5], [6], [], [8], [9], [10], [11], [7, 12], [13], [3, 14], [15, 15, 0, 1, 2, 3, 4, 5, 6, 7, 8, 9, 10, 11, 12, 13, 14, 15]]) .ret))))
theorem fn167 : MFn Tryz.prog 167 mc167 55 [.tmp 2] := ⟨_, Tryz.func167, by kernel_rfl, Tryz.ntmps167, by kernel_rfl⟩
def F_impl_cursor_next (c0 : (List Int)) (c1 : (List Int)) (c2 : Int) : Option (Int × Int) :=
 if (decide ((c1.length : Int) <= c2)) = true then
  some ((-1), c2)
 else
  if 0 <= c2 /\ c2 < (c1.length : Int) then
   if (decide ((c0.length : Int) <= (c1.getD c2.toNat default))) = true then
    some ((-1), c2)
   else
    if 0 <= (IntKind.i64.wrap ((IntKind.i64.wrap (c2 + 1)) - 1)) /\ (IntKind.i64.wrap ((IntKind.i64.wrap (c2 + 1)) - 1)) < (c1.length : Int) then
     (F_impl_arityAt c0 (c1.getD (IntKind.i64.wrap ((IntKind.i64.wrap (c2 + 1)) - 1)).toNat default)).bind fun r =>
     some (r, (IntKind.i64.wrap (c2 + 1)))
    else none
  else none
instance c_impl_cursor_next {c0 : (List Int)} {c1 : (List Int)} {c2 : Int} : HasC (F_impl_cursor_next c0 c1 c2) fun rr => ACalls Tryz.prog 167 [.ptr 0 0] [(0, .obj 186 [.d (slD 1 iD c0), .d (slD 1 iD c1), .d (iD c2)])] 1 fun xx ss => xx = .d (iD rr.1) /\ ss = [(0, .obj 186 [.d (slD 1 iD c0), .d (slD 1 iD c1), .d (iD rr.2)])] := ⟨@fun rr h => by
 delta F_impl_cursor_next at h
 refine fn167.callsO (vcm_sound ?_)
 delta mc167
 refine stp ?_
 exact aut⟩
def mc151 : MCode :=
 (.seq (.reg (sq 2 [mb false])) (.seq (.seq (.reg (sq 3 [mi 1])) (.block 0 (.loop (.seq (.seq (.reg (sq 5 [mv 3, bi .gtr 5 0])) (.cond (t0 6) .skip (.exit 0))) (.seq (.block 1 (.seq (.reg (sq 9 [mv 0, cf 167 [9]] ++ sq 4 [mv 10])) (.seq (.seq (.reg (sq 11 [mv 4, bi .lss 11 0])) (.cond (t0 12) (.seq (.reg (sq 2 [mb false])) .ret) .skip)) (.reg (sq 13 [mv 3, mv 4, bn .add 13 14] ++ sq 3 [mv 15]))))) (.reg (sq 7 [mv 3, bi .sub 7 1] ++ sq 3 [mv 8]))))))) (.seq (.reg (sq 2 [mb true])) .ret)))
theorem fn151 : MFn Tryz.prog 151 mc151 16 [.tmp 2] := ⟨_, Tryz.func151, by kernel_rfl, Tryz.ntmps151, by kernel_rfl⟩
def F_impl_cursor_skip_l1 (c0 : (List Int)) (c1 : (List Int)) : (Int × Int) -> Option ((Int × Int) ⊕ (Bool × Int))
 | (need, c) =>
  if (decide (0 < need)) = true then
   (F_impl_cursor_next c0 c1 c).bind fun r =>
   if (decide (r.1 < 0)) = true then
    Option.map Sum.inr (
     some (false, r.2))
   else
    some (.inl ((IntKind.i64.wrap ((IntKind.i64.wrap (need + r.1)) - 1)), r.2))
  else
   Option.map Sum.inr (
    some (true, c))
def F_impl_cursor_skip (c0 : (List Int)) (c1 : (List Int)) (c2 : Int) : Option (Bool × Int) :=
 loopC (F_impl_cursor_skip_l1 c0 c1) (1, c2)
instance c_impl_cursor_skip {c0 : (List Int)} {c1 : (List Int)} {c2 : Int} : HasC (F_impl_cursor_skip c0 c1 c2) fun rr => ACalls Tryz.prog 151 [.ptr 0 0] [(0, .obj 186 [.d (slD 1 iD c0), .d (slD 1 iD c1), .d (iD c2)])] 1 fun xx ss => xx = .d (bD rr.1) /\ ss = [(0, .obj 186 [.d (slD 1 iD c0), .d (slD 1 iD c1), .d (iD rr.2)])] := ⟨@fun rr h => by
 delta F_impl_cursor_skip at h
 refine fn151.callsO (vcm_sound ?_)
 delta mc151
 refine stp ?_
 refine m_lW h [2, 3, 4, 5, 6, 7, 8, 9, 10, 11, 12, 13, 14, 15] (fun pp => [(3, .d (iD pp.1))]) (fun pp => [(0, .obj 186 [.d (slD 1 iD c0), .d (slD 1 iD c1), .d (iD pp.2)])]) ?_
 rintro ⟨need, c⟩ t1 h hb1
 unfold F_impl_cursor_skip_l1 at h
 try dsimp only at h
 refine vcm_sound (stp ?_)
 refine iT h fun hc h => ?_
 refine rCo [(0, 0)] [] h fun r hr h => ?_
 exact aut⟩
def mc127 : MCode :=
 (.seq (.reg (sq 3 [bo 3 30 0] ++ sq 6 [mi 0])) (.seq (.reg (sq 8 [la 1 3, mv 1, mv 2, .build [.sl 0 (some true) [], .sl 0 (some true) [], .lit (.int .i64 0)] [(0, 1, (t0 8)), (1, 1, (t0 9)), (2, 1, (t0 10))]] ++ sq 7 [.alloc 7 186 [.sl 0 (some true) [], .sl 0 (some true) [], .lit (.int .i64 0)]] ++ s0 (sr 3 7 11))) (.seq (.seq (.reg (sq 12 [cf 151 [7], nt 12])) (.cond (t0 13) (.seq (.reg (sq 6 [mi (-1)])) .ret) .skip)) (.seq (.reg (sq 14 [fa 2 7, ld 14] ++ sq 6 [mv 15])) .ret))))
theorem fn127 : MFn Tryz.prog 127 mc127 16 [.tmp 6] := ⟨_, Tryz.func127, by kernel_rfl, Tryz.ntmps127, by kernel_rfl⟩
def F_impl_endAt (sig : (List Int)) (t : (List Int)) (at' : Int) : Option Int :=
 (F_impl_cursor_skip sig t at').bind fun r =>
 if r.1 = true then
  some r.2
 else
  some (-1)
instance c_impl_endAt {sig : (List Int)} {t : (List Int)} {at' : Int} : HasC (F_impl_endAt sig t at') fun rr => PFun Tryz.prog 127 [D_impl_Sig sig, (slD 1 iD) t, iD at'] (iD rr) := ⟨@fun rr h => by
 delta F_impl_endAt at h
 refine fn127.pureL (vcm_sound ?_)
 delta mc127
 refine stp ?_
 refine rCo [(0, 7)] [] h fun r hr h => ?_
 exact aut⟩
def mc96 : MCode :=
 (.seq (.reg (sq 2 [bo 2 30 0] ++ sq 4 [mb false])) (.seq (.reg (sq 5 [la 1 2, cf 48 [5], mv 6] ++ sg 7 true 8 [mv 1, ln 8, bi .gtr 9 0] ++ sq 11 [pa 7 10, mv 11] ++ sg 12 true 13 [mv 1, ln 13, bi .leq 14 60] ++ sq 16 [pa 12 15, mv 16] ++ sg 17 true 18 [mv 1, cf 126 [18], bi .geq 19 (-24)] ++ sq 21 [pa 17 20, mv 21] ++ sg 22 true 23 [la 1 2, mv 1, .callf 127 [(t0 23), (t0 24), (i0 0)], mv 1, ln 26, bn .eql 25 27] ++ sq 29 [pa 22 28] ++ sq 4 [mv 29])) .ret))
theorem fn96 : MFn Tryz.prog 96 mc96 30 [.tmp 4] := ⟨_, Tryz.func96, by kernel_rfl, Tryz.ntmps96, by kernel_rfl⟩
def F_impl_TermOk (sig : (List Int)) (t : (List Int)) : Option Bool :=
 (F_impl_SigOk sig).bind fun r =>
 if r = true then
  if (decide (0 < (t.length : Int))) = true then
   if (decide ((t.length : Int) <= 60)) = true then
    (F_slices_Min_int64_int64 t).bind fun r_1 =>
    if (decide ((-24) <= r_1)) = true then
     (F_impl_endAt sig t 0).bind fun r_2 =>
     some (r_2 == (t.length : Int))
    else
     some false
   else
    some false
  else
   some false
 else
  some false
instance c_impl_TermOk {sig : (List Int)} {t : (List Int)} : HasC (F_impl_TermOk sig t) fun rr => PFun Tryz.prog 96 [D_impl_Sig sig, (slD 1 iD) t] (bD rr) := ⟨@fun rr h => by
 delta F_impl_TermOk at h
 refine fn96.pureL (vcm_sound ?_)
 delta mc96
 refine stp ?_
 exact aut⟩
def mc30 : MCode :=
 (.seq (.reg (sq 6 [mb false])) (.seq (.reg (sq 7 [mv 0, mv 1, bn .geq 7 8, mv 9] ++ sg 10 true 11 [mv 0, mv 2, bn .leq 11 12] ++ sq 14 [pa 10 13] ++ sq 6 [mv 14])) .ret))
theorem fn30 : MFn Tryz.prog 30 mc30 15 [.tmp 6] := ⟨_, Tryz.func30, by kernel_rfl, Tryz.ntmps30, by kernel_rfl⟩
def F_spec_l1In (x : Int) (lo : Int) (hi : Int) : Option Bool :=
 if (decide (lo <= x)) = true then
  some (decide (x <= hi))
 else
  some false
instance c_spec_l1In {x : Int} {lo : Int} {hi : Int} : HasC (F_spec_l1In x lo hi) fun rr => PFun Tryz.prog 30 [iD x, iD lo, iD hi] (bD rr) := ⟨@fun rr h => by
 delta F_spec_l1In at h
 refine fn30.pureL (vcm_sound ?_)
 delta mc30
 refine stp ?_
 exact aut⟩
def mc64 : MCode :=
 (.seq (.reg (sq 1 [bo 1 30 0, mb false])) (.seq (.seq (.reg (sq 4 [fa 0 1, ld 4, ln 5, .callf 30 [(t0 6), (i0 1), (i0 8)], nt 7])) (.cond (t0 8) (.seq (.reg (sq 2 [mb false])) .ret) .skip)) (.seq (.seq (.reg (sq 3 [mi 0])) (.block 0 (.loop (.seq (.seq (.reg (sq 9 [mv 3, fa 0 1, ld 10, ln 11, bn .lss 9 12])) (.cond (t0 13) .skip (.exit 0))) (.seq (.block 1 (.seq (.reg (sq 16 [fa 0 1, ld 16, mv 3, ix 1 17 18, ld 19, .callf 30 [(t0 20), (i0 0), (i0 3)], nt 21])) (.cond (t0 22) (.seq (.reg (sq 2 [mb false])) .ret) .skip))) (.reg (sq 14 [mv 3, bi .add 14 1] ++ sq 3 [mv 15]))))))) (.seq (.reg (sq 2 [mb true])) .ret))))
theorem fn64 : MFn Tryz.prog 64 mc64 23 [.tmp 2] := ⟨_, Tryz.func64, by kernel_rfl, Tryz.ntmps64, by kernel_rfl⟩
def F_spec_SigOk_l1 (sig : (List Int)) : Int -> Option (Int ⊕ Bool)
 | f =>
  if (decide (f < (sig.length : Int))) = true then
   if 0 <= f /\ f < (sig.length : Int) then
    (F_spec_l1In (sig.getD f.toNat default) 0 3).bind fun r_1 =>
    if r_1 = true then
     some (.inl (IntKind.i64.wrap (f + 1)))
    else
     Option.map Sum.inr (
      some false)
   else none
  else
   Option.map Sum.inr (
    some true)
def F_spec_SigOk (sig : (List Int)) : Option Bool :=
 (F_spec_l1In (sig.length : Int) 1 8).bind fun r =>
 if r = true then
  loopC (F_spec_SigOk_l1 sig) 0
 else
  some false
instance c_spec_SigOk {sig : (List Int)} : HasC (F_spec_SigOk sig) fun rr => PFun Tryz.prog 64 [D_impl_Sig sig] (bD rr) := ⟨@fun rr h => by
 delta F_spec_SigOk at h
 refine fn64.pureL (vcm_sound ?_)
 delta mc64
 refine stp ?_
 refine rC h fun r hr h => ?_
 refine iT h fun hc h => ?_
 refine m_lW h [2, 3, 9, 10, 11, 12, 13, 14, 15, 16, 17, 18, 19, 20, 21, 22] (fun pp => [(3, .d (iD pp))]) (fun pp => [(1, .obj 30 [.d (slD 1 iD sig)])]) ?_
 rintro f t1 h hb1
 unfold F_spec_SigOk_l1 at h
 try dsimp only at h
 refine vcm_sound (stp ?_)
 exact aut⟩
def mc119 : MCode :=
 (.seq (.reg (sq 2 [bo 2 30 0] ++ sq 4 [mi 0])) (.seq (.block 0 (.seq (.reg (sq 6 [mv 1, .callf 30 [(t0 6), (i0 (-24)), (i0 (-1))]] ++ sq 5 [mv 7])) (.cond (t0 5) (.seq (.reg (sq 4 [mi 0])) .ret) (.seq (.reg (sq 9 [mv 1, fa 0 2, ld 10, ln 11, bi .sub 12 1, .callf 30 [(t0 9), (i0 0), (t0 13)]] ++ sq 8 [mv 14])) (.cond (t0 8) (.seq (.reg (sq 15 [fa 0 2, ld 15, mv 1, ix 1 16 17, ld 18] ++ sq 4 [mv 19])) .ret) .skip))))) (.seq (.reg (sq 4 [mi (-1)])) .ret)))
theorem fn119 : MFn Tryz.prog 119 mc119 20 [.tmp 4] := ⟨_, Tryz.func119, by kernel_rfl, Tryz.ntmps119, by kernel_rfl⟩
def F_spec_l1Arity (sig : (List Int)) (n : Int) : Option Int :=
 (F_spec_l1In n (-24) (-1)).bind fun r =>
 if r = true then
  some 0
 else
  (F_spec_l1In n 0 (IntKind.i64.wrap ((sig.length : Int) - 1))).bind fun r_1 =>
  if r_1 = true then
   if 0 <= n /\ n < (sig.length : Int) then
    some (sig.getD n.toNat default)
   else none
  else
   some (-1)
instance c_spec_l1Arity {sig : (List Int)} {n : Int} : HasC (F_spec_l1Arity sig n) fun rr => PFun Tryz.prog 119 [D_impl_Sig sig, iD n] (iD rr) := ⟨@fun rr h => by
 delta F_spec_l1Arity at h
 refine fn119.pureL (vcm_sound ?_)
 delta mc119
 refine stp ?_
 exact aut⟩
def mc87 : MCode :=
 (.seq (.reg (sq 3 [bo 3 30 0] ++ sq 6 [mi 0])) (.seq (.reg (sq 7 [mi 1])) (.seq (.seq (.reg (sq 10 [mv 2] ++ sq 8 [mv 10])) (.block 0 (.loop (.seq (.seq (.reg (sq 11 [mv 8, mv 1, ln 12, bn .lss 11 13])) (.cond (t0 14) .skip (.exit 0))) (.seq (.block 1 (.seq (.draw (sq 17 [la 1 3, mv 1, mv 8, ix 1 18 19, ld 20, cf 119 [17, 21]] ++ sq 9 [mv 22]) [[], [], [], [1, 2], [3], [0, 4], [5, 5, 0, 1, 2, 3, 4, 5]]) (.seq (.seq (.reg (sq 23 [mv 9, bi .lss 23 0])) (.cond (t0 24) (.seq (.reg (sq 6 [mi (-1)])) .ret) .skip)) (.seq (.reg (sq 25 [mv 7, mv 9, bn .add 25 26, bi .sub 27 1] ++ sq 7 [mv 28])) (.seq (.reg (sq 29 [mv 7, bi .eql 29 0])) (.cond (t0 30) (.seq (.reg (sq 31 [mv 8, bi .add 31 1] ++ sq 6 [mv 32])) .ret) .skip)))))) (.reg (sq 15 [mv 8, bi .add 15 1] ++ sq 8 [mv 16]))))))) (.seq (.reg (sq 6 [mi (-1)])) .ret))))
theorem fn87 : MFn Tryz.prog 87 mc87 33 [.tmp 6] := ⟨_, Tryz.func87, by kernel_rfl, Tryz.ntmps87, by kernel_rfl⟩
def F_spec_l1End_l1 (sig : (List Int)) (t : (List Int)) : (Int × Int) -> Option ((Int × Int) ⊕ Int)
 | (need, i) =>
  if (decide (i < (t.length : Int))) = true then
   if 0 <= i /\ i < (t.length : Int) then
    (F_spec_l1Arity sig (t.getD i.toNat default)).bind fun r =>
    if (decide (r < 0)) = true then
     Option.map Sum.inr (
      some (-1))
    else
     if ((IntKind.i64.wrap ((IntKind.i64.wrap (need + r)) - 1)) == 0) = true then
      Option.map Sum.inr (
       some (IntKind.i64.wrap (i + 1)))
     else
      some (.inl ((IntKind.i64.wrap ((IntKind.i64.wrap (need + r)) - 1)), (IntKind.i64.wrap (i + 1))))
   else none
  else
   Option.map Sum.inr (
    some (-1))
def F_spec_l1End (sig : (List Int)) (t : (List Int)) (at' : Int) : Option Int :=
 loopC (F_spec_l1End_l1 sig t) (1, at')
instance c_spec_l1End {sig : (List Int)} {t : (List Int)} {at' : Int} : HasC (F_spec_l1End sig t at') fun rr => PFun Tryz.prog 87 [D_impl_Sig sig, (slD 1 iD) t, iD at'] (iD rr) := ⟨@fun rr h => by
 delta F_spec_l1End at h
 refine fn87.pureL (vcm_sound ?_)
 delta mc87
 refine stp ?_
 refine m_lW h [6, 7, 8, 9, 11, 12, 13, 14, 15, 16, 17, 18, 19, 20, 21, 22, 23, 24, 25, 26, 27, 28, 29, 30, 31, 32] (fun pp => [(7, .d (iD pp.1)), (8, .d (iD pp.2))]) (fun pp => [(3, .obj 30 [.d (slD 1 iD sig)])]) ?_
 rintro ⟨need, i⟩ t1 h hb1
 unfold F_spec_l1End_l1 at h
 try dsimp only at h
 refine vcm_sound (stp ?_)
 exact aut⟩
def mc57 : MCode :=
 (.seq (.reg (sq 2 [bo 2 30 0] ++ sq 4 [mb false])) (.seq (.reg (sq 5 [la 1 2, cf 64 [5], mv 6] ++ sg 7 true 8 [mv 1, ln 8, .callf 30 [(t0 9), (i0 1), (i0 60)]] ++ sq 11 [pa 7 10, mv 11] ++ sg 12 true 13 [la 1 2, mv 1, .callf 87 [(t0 13), (t0 14), (i0 0)], mv 1, ln 16, bn .eql 15 17] ++ sq 19 [pa 12 18] ++ sq 4 [mv 19])) .ret))
theorem fn57 : MFn Tryz.prog 57 mc57 20 [.tmp 4] := ⟨_, Tryz.func57, by kernel_rfl, Tryz.ntmps57, by kernel_rfl⟩
def F_spec_TermOk (sig : (List Int)) (t : (List Int)) : Option Bool :=
 (F_spec_SigOk sig).bind fun r =>
 if r = true then
  (F_spec_l1In (t.length : Int) 1 60).bind fun r_1 =>
  if r_1 = true then
   (F_spec_l1End sig t 0).bind fun r_2 =>
   some (r_2 == (t.length : Int))
  else
   some false
 else
  some false
instance c_spec_TermOk {sig : (List Int)} {t : (List Int)} : HasC (F_spec_TermOk sig t) fun rr => PFun Tryz.prog 57 [D_impl_Sig sig, (slD 1 iD) t] (bD rr) := ⟨@fun rr h => by
 delta F_spec_TermOk at h
 refine fn57.pureL (vcm_sound ?_)
 delta mc57
 refine stp ?_
 exact aut⟩
def mc128 : MCode :=
 (.seq (.reg (sq 4 [mi 0])) (.seq (.seq (.reg (sq 6 [mv 0, ln 6, mi 0])) (.block 0 (.loop (.seq (.reg (sq 9 [bn .lss 8 7])) (.seq (.cond (t0 9) .skip (.exit 0)) (.seq (.block 1 (.seq (.reg (sq 10 [mv 8] ++ sq 5 [mv 10])) (.seq (.reg (sq 11 [mv 1, mv 0, mv 5, ix 1 12 13, ld 14, bn .eql 11 15])) (.cond (t0 16) (.seq (.reg (sq 17 [mv 5] ++ sq 4 [mv 17])) .ret) .skip)))) (.reg (sq 18 [bi .add 8 1] ++ sq 8 [mv 18])))))))) (.seq (.reg (sq 4 [mi (-1)])) .ret)))
theorem fn128 : MFn Tryz.prog 128 mc128 19 [.tmp 4] := ⟨_, Tryz.func128, by kernel_rfl, Tryz.ntmps128, by kernel_rfl⟩
def F_slices_Index_int64_int64_l1 (s : (List Int)) (v : Int) : Int -> Option (Int ⊕ Int)
 | v8 =>
  if (decide (v8 < (s.length : Int))) = true then
   if 0 <= v8 /\ v8 < (s.length : Int) then
    if (v == (s.getD v8.toNat default)) = true then
     Option.map Sum.inr (
      some v8)
    else
     some (.inl (IntKind.i64.wrap (v8 + 1)))
   else none
  else
   Option.map Sum.inr (
    some (-1))
def F_slices_Index_int64_int64 (s : (List Int)) (v : Int) : Option Int :=
 loopC (F_slices_Index_int64_int64_l1 s v) 0
instance c_slices_Index_int64_int64 {s : (List Int)} {v : Int} : HasC (F_slices_Index_int64_int64 s v) fun rr => PFun Tryz.prog 128 [(slD 1 iD) s, iD v] (iD rr) := ⟨@fun rr h => by
 delta F_slices_Index_int64_int64 at h
 refine fn128.pureL (vcm_sound ?_)
 delta mc128
 refine stp ?_
 refine m_lW h [4, 5, 8, 9, 10, 11, 12, 13, 14, 15, 16, 17, 18] (fun pp => [(8, .d (iD pp))]) (fun pp => []) ?_
 rintro v8 t1 h hb1
 unfold F_slices_Index_int64_int64_l1 at h
 try dsimp only at h
 refine vcm_sound (stp ?_)
 exact aut⟩
def mc97 : MCode :=
 (.seq (.reg (sq 4 [mb false])) (.seq (.reg (sq 5 [mv 0, mv 1, cf 128 [5, 6], bi .geq 7 0] ++ sq 4 [mv 8])) .ret))
theorem fn97 : MFn Tryz.prog 97 mc97 9 [.tmp 4] := ⟨_, Tryz.func97, by kernel_rfl, Tryz.ntmps97, by kernel_rfl⟩
def F_slices_Contains_int64_int64 (s : (List Int)) (v : Int) : Option Bool :=
 (F_slices_Index_int64_int64 s v).bind fun r =>
 some (decide (0 <= r))
instance c_slices_Contains_int64_int64 {s : (List Int)} {v : Int} : HasC (F_slices_Contains_int64_int64 s v) fun rr => PFun Tryz.prog 97 [(slD 1 iD) s, iD v] (bD rr) := ⟨@fun rr h => by
 delta F_slices_Contains_int64_int64 at h
 refine fn97.pureL (vcm_sound ?_)
 delta mc97
 refine stp ?_
 exact aut⟩
def mc71 : MCode :=
 (.seq (.reg (sq 2 [bo 2 30 0, bo 3 68 1, mb false])) (.seq (.seq (.reg (sq 7 [la 1 2, fa 0 3, ld 8, cf 96 [7, 9], nt 10, mv 11] ++ sg 12 false 13 [la 1 2, fa 1 3, ld 14, cf 96 [13, 15], nt 16] ++ sq 18 [po 12 17, mv 18] ++ sg 19 false 20 [fa 0 3, ld 20, .ixa 1 (t0 21) (i0 0), ld 22, bi .lss 23 0] ++ sq 25 [po 19 24])) (.cond (t0 25) (.seq (.reg (sq 4 [mb false])) .ret) .skip)) (.seq (.seq (.reg (sq 26 [fa 1 3, ld 26, ln 27, mi 0])) (.block 0 (.loop (.seq (.reg (sq 30 [bn .lss 29 28])) (.seq (.cond (t0 30) .skip (.exit 0)) (.seq (.block 1 (.seq (.reg (sq 31 [ix 1 27 29, ld 31] ++ sq 6 [mv 32])) (.seq (.reg (sq 33 [mv 6, bi .lss 33 0, mv 34] ++ sg 35 true 36 [fa 0 3, ld 36, mv 6, cf 97 [37, 38], nt 39] ++ sq 41 [pa 35 40])) (.cond (t0 41) (.seq (.reg (sq 4 [mb false])) .ret) .skip)))) (.reg (sq 42 [bi .add 29 1] ++ sq 29 [mv 42])))))))) (.seq (.reg (sq 4 [mb true])) .ret))))
theorem fn71 : MFn Tryz.prog 71 mc71 43 [.tmp 4] := ⟨_, Tryz.func71, by kernel_rfl, Tryz.ntmps71, by kernel_rfl⟩
def F_impl_RuleOk_l1 (r : ((List Int) × (List Int))) : Int -> Option (Int ⊕ Bool)
 | v29 =>
  if (decide (v29 < (r.2.length : Int))) = true then
   if 0 <= v29 /\ v29 < (r.2.length : Int) then
    if (decide ((r.2.getD v29.toNat default) < 0)) = true then
     (F_slices_Contains_int64_int64 r.1 (r.2.getD v29.toNat default)).bind fun r_3 =>
     if r_3 = true then
      some (.inl (IntKind.i64.wrap (v29 + 1)))
     else
      Option.map Sum.inr (
       some false)
    else
     some (.inl (IntKind.i64.wrap (v29 + 1)))
   else none
  else
   Option.map Sum.inr (
    some true)
def F_impl_RuleOk (sig : (List Int)) (r : ((List Int) × (List Int))) : Option Bool :=
 (F_impl_TermOk sig r.1).bind fun r_1 =>
 if r_1 = true then
  (F_impl_TermOk sig r.2).bind fun r_2 =>
  if r_2 = true then
   if 0 <= 0 /\ 0 < (r.1.length : Int) then
    if (decide ((r.1.getD 0 default) < 0)) = true then
     some false
    else
     loopC (F_impl_RuleOk_l1 r) 0
   else none
  else
   some false
 else
  some false
instance c_impl_RuleOk {sig : (List Int)} {r : ((List Int) × (List Int))} : HasC (F_impl_RuleOk sig r) fun rr => PFun Tryz.prog 71 [D_impl_Sig sig, D_impl_Rule r] (bD rr) := ⟨@fun rr h => by
 delta F_impl_RuleOk at h
 refine fn71.pureL (vcm_sound ?_)
 delta mc71
 refine stp ?_
 refine rC h fun r_1 hr_1 h => ?_
 refine iT h fun hc h => ?_
 refine rC h fun r_2 hr_2 h => ?_
 refine iT h fun hc h => ?_
 refine ndI h fun hp h => ?_
 refine iF h fun hc h => ?_
 refine m_lW h [4, 6, 29, 30, 31, 32, 33, 34, 35, 36, 37, 38, 39, 40, 41, 42] (fun pp => [(29, .d (iD pp))]) (fun pp => [(2, .obj 30 [.d (slD 1 iD sig)]), (3, .obj 68 [.d (slD 1 iD r.1), .d (slD 1 iD r.2)])]) ?_
 rintro v29 t1 h hb1
 unfold F_impl_RuleOk_l1 at h
 try dsimp only at h
 refine vcm_sound (stp ?_)
 exact aut⟩
def mc34 : MCode :=
 (.seq (.reg (sq 1 [bo 1 33 0, mb false])) (.seq (.seq (.reg (sq 5 [fa 0 1, la 1 5, cf 48 [6], nt 7, mv 8] ++ sg 9 false 10 [fa 1 1, ld 10, ln 11, bi .gtr 12 12] ++ sq 14 [po 9 13])) (.cond (t0 14) (.seq (.reg (sq 2 [mb false])) .ret) .skip)) (.seq (.seq (.reg (sq 15 [fa 1 1, ld 15, ln 16, mi 0])) (.block 0 (.loop (.seq (.reg (sq 19 [bn .lss 18 17])) (.seq (.cond (t0 19) .skip (.exit 0)) (.seq (.block 1 (.seq (.reg (sq 20 [ix 2 16 18, la 2 20] ++ sq 4 [.alloc 4 68 [.sl 0 (some true) [], .sl 0 (some true) []]] ++ s0 (sr 2 4 21))) (.seq (.reg (sq 22 [fa 0 1, la 1 22, la 2 4, cf 71 [23, 24], nt 25])) (.cond (t0 26) (.seq (.reg (sq 2 [mb false])) .ret) .skip)))) (.reg (sq 27 [bi .add 18 1] ++ sq 18 [mv 27])))))))) (.seq (.reg (sq 2 [mb true])) .ret))))
theorem fn34 : MFn Tryz.prog 34 mc34 28 [.tmp 2] := ⟨_, Tryz.func34, by kernel_rfl, Tryz.ntmps34, by kernel_rfl⟩
def F_impl_SystemOk_l1 (sys : ((List Int) × (List ((List Int) × (List Int))))) : Int -> Option (Int ⊕ Bool)
 | v18 =>
  if (decide (v18 < (sys.2.length : Int))) = true then
   if 0 <= v18 /\ v18 < (sys.2.length : Int) then
    (F_impl_RuleOk sys.1 ((sys.2.getD v18.toNat default).1, (sys.2.getD v18.toNat default).2)).bind fun r_1 =>
    if r_1 = true then
     some (.inl (IntKind.i64.wrap (v18 + 1)))
    else
     Option.map Sum.inr (
      some false)
   else none
  else
   Option.map Sum.inr (
    some true)
def F_impl_SystemOk (sys : ((List Int) × (List ((List Int) × (List Int))))) : Option Bool :=
 (F_impl_SigOk sys.1).bind fun r =>
 if r = true then
  if (decide (12 < (sys.2.length : Int))) = true then
   some false
  else
   loopC (F_impl_SystemOk_l1 sys) 0
 else
  some false
instance c_impl_SystemOk {sys : ((List Int) × (List ((List Int) × (List Int))))} : HasC (F_impl_SystemOk sys) fun rr => PFun Tryz.prog 34 [D_impl_System sys] (bD rr) := ⟨@fun rr h => by
 delta F_impl_SystemOk at h
 refine fn34.pureL (vcm_sound ?_)
 delta mc34
 refine stp ?_
 refine rC h fun r hr h => ?_
 refine iT h fun hc h => ?_
 refine iF h fun hc h => ?_
 refine m_lW h [2, 4, 18, 19, 20, 21, 22, 23, 24, 25, 26, 27] (fun pp => [(18, .d (iD pp))]) (fun pp => [(1, .obj 33 [.d (slD 1 iD sys.1), .d (slD 2 D_impl_Rule sys.2)])]) ?_
 rintro v18 t1 h hb1
 unfold F_impl_SystemOk_l1 at h
 try dsimp only at h
 refine vcm_sound (stp ?_)
 refine iT h fun hc h => ?_
 refine ndI h fun hp h => ?_
 refine rC h fun r_1 hr_1 h => ?_
 refine iT h fun hc h => ?_
 cases h
 refine ⟨_, rfl, ?_⟩
 refine (Weak.drop 4 (by omega)).trans ?_
 exact wk⟩
def mc77 : MCode :=
 (.seq (.reg (sq 4 [mb false])) (.seq (.seq (.reg (sq 5 [mi 0])) (.block 0 (.loop (.seq (.seq (.reg (sq 6 [mv 5, mv 0, ln 7, bn .lss 6 8])) (.cond (t0 9) .skip (.exit 0))) (.seq (.block 1 (.seq (.reg (sq 12 [mv 0, mv 5, ix 1 12 13, ld 14, mv 1, bn .eql 15 16])) (.cond (t0 17) (.seq (.reg (sq 4 [mb true])) .ret) .skip))) (.reg (sq 10 [mv 5, bi .add 10 1] ++ sq 5 [mv 11]))))))) (.seq (.reg (sq 4 [mb false])) .ret)))
theorem fn77 : MFn Tryz.prog 77 mc77 18 [.tmp 4] := ⟨_, Tryz.func77, by kernel_rfl, Tryz.ntmps77, by kernel_rfl⟩
def F_spec_l1Has_l1 (s : (List Int)) (n : Int) : Int -> Option (Int ⊕ Bool)
 | i =>
  if (decide (i < (s.length : Int))) = true then
   if 0 <= i /\ i < (s.length : Int) then
    if ((s.getD i.toNat default) == n) = true then
     Option.map Sum.inr (
      some true)
    else
     some (.inl (IntKind.i64.wrap (i + 1)))
   else none
  else
   Option.map Sum.inr (
    some false)
def F_spec_l1Has (s : (List Int)) (n : Int) : Option Bool :=
 loopC (F_spec_l1Has_l1 s n) 0
instance c_spec_l1Has {s : (List Int)} {n : Int} : HasC (F_spec_l1Has s n) fun rr => PFun Tryz.prog 77 [(slD 1 iD) s, iD n] (bD rr) := ⟨@fun rr h => by
 delta F_spec_l1Has at h
 refine fn77.pureL (vcm_sound ?_)
 delta mc77
 refine stp ?_
 refine m_lW h [4, 5, 6, 7, 8, 9, 10, 11, 12, 13, 14, 15, 16, 17] (fun pp => [(5, .d (iD pp))]) (fun pp => []) ?_
 rintro i t1 h hb1
 unfold F_spec_l1Has_l1 at h
 try dsimp only at h
 refine vcm_sound (stp ?_)
 exact aut⟩
def mc67 : MCode :=
 (.seq (.reg (sq 2 [bo 2 30 0, bo 3 68 1, mb false])) (.seq (.seq (.reg (sq 6 [la 1 2, fa 0 3, ld 7, cf 57 [6, 8], nt 9, mv 10] ++ sg 11 false 12 [la 1 2, fa 1 3, ld 13, cf 57 [12, 14], nt 15] ++ sq 17 [po 11 16, mv 17] ++ sg 18 false 19 [fa 0 3, ld 19, .ixa 1 (t0 20) (i0 0), ld 21, bi .lss 22 0] ++ sq 24 [po 18 23])) (.cond (t0 24) (.seq (.reg (sq 4 [mb false])) .ret) .skip)) (.seq (.seq (.reg (sq 5 [mi 0])) (.block 0 (.loop (.seq (.seq (.reg (sq 25 [mv 5, fa 1 3, ld 26, ln 27, bn .lss 25 28])) (.cond (t0 29) .skip (.exit 0))) (.seq (.block 1 (.seq (.draw (sq 32 [fa 1 3, ld 32, mv 5, ix 1 33 34, ld 35, bi .lss 36 0, mv 37] ++ sg 38 true 39 [fa 0 3, ld 39, fa 1 3, ld 41, mv 5, ix 1 42 43, ld 44, cf 77 [40, 45], nt 46] ++ sq 48 [pa 38 47]) [[], [0], [], [1, 2], [3], [4], [5], [6], [7, 6], [6], [9, 6], [6], [10, 11, 6], [12, 6], [8, 13, 6, 6], [14, 6], [6, 15]]) (.cond (t0 48) (.seq (.reg (sq 4 [mb false])) .ret) .skip))) (.reg (sq 30 [mv 5, bi .add 30 1] ++ sq 5 [mv 31]))))))) (.seq (.reg (sq 4 [mb true])) .ret))))
theorem fn67 : MFn Tryz.prog 67 mc67 49 [.tmp 4] := ⟨_, Tryz.func67, by kernel_rfl, Tryz.ntmps67, by kernel_rfl⟩
def F_spec_RuleOk_l1 (r : ((List Int) × (List Int))) : Int -> Option (Int ⊕ Bool)
 | i =>
  if (decide (i < (r.2.length : Int))) = true then
   if 0 <= i /\ i < (r.2.length : Int) then
    if (decide ((r.2.getD i.toNat default) < 0)) = true then
     if 0 <= i /\ i < (r.2.length : Int) then
      (F_spec_l1Has r.1 (r.2.getD i.toNat default)).bind fun r_3 =>
      if r_3 = true then
       some (.inl (IntKind.i64.wrap (i + 1)))
      else
       Option.map Sum.inr (
        some false)
     else none
    else
     some (.inl (IntKind.i64.wrap (i + 1)))
   else none
  else
   Option.map Sum.inr (
    some true)
def F_spec_RuleOk (sig : (List Int)) (r : ((List Int) × (List Int))) : Option Bool :=
 (F_spec_TermOk sig r.1).bind fun r_1 =>
 if r_1 = true then
  (F_spec_TermOk sig r.2).bind fun r_2 =>
  if r_2 = true then
   if 0 <= 0 /\ 0 < (r.1.length : Int) then
    if (decide ((r.1.getD 0 default) < 0)) = true then
     some false
    else
     loopC (F_spec_RuleOk_l1 r) 0
   else none
  else
   some false
 else
  some false
instance c_spec_RuleOk {sig : (List Int)} {r : ((List Int) × (List Int))} : HasC (F_spec_RuleOk sig r) fun rr => PFun Tryz.prog 67 [D_impl_Sig sig, D_impl_Rule r] (bD rr) := ⟨@fun rr h => by
 delta F_spec_RuleOk at h
 refine fn67.pureL (vcm_sound ?_)
 delta mc67
 refine stp ?_
 refine rC h fun r_1 hr_1 h => ?_
 refine iT h fun hc h => ?_
 refine rC h fun r_2 hr_2 h => ?_
 refine iT h fun hc h => ?_
 refine ndI h fun hp h => ?_
 refine iF h fun hc h => ?_
 refine m_lW h [4, 5, 25, 26, 27, 28, 29, 30, 31, 32, 33, 34, 35, 36, 37, 38, 39, 40, 41, 42, 43, 44, 45, 46, 47, 48] (fun pp => [(5, .d (iD pp))]) (fun pp => [(2, .obj 30 [.d (slD 1 iD sig)]), (3, .obj 68 [.d (slD 1 iD r.1), .d (slD 1 iD r.2)])]) ?_
 rintro i t1 h hb1
 unfold F_spec_RuleOk_l1 at h
 try dsimp only at h
 refine vcm_sound (stp ?_)
 exact aut⟩
def mc29 : MCode :=
 (.seq (.reg (sq 1 [bo 1 33 0, mb false])) (.seq (.seq (.reg (sq 4 [fa 0 1, la 1 4, cf 64 [5], nt 6, mv 7] ++ sg 8 false 9 [fa 1 1, ld 9, ln 10, bi .gtr 11 12] ++ sq 13 [po 8 12])) (.cond (t0 13) (.seq (.reg (sq 2 [mb false])) .ret) .skip)) (.seq (.seq (.reg (sq 3 [mi 0])) (.block 0 (.loop (.seq (.seq (.reg (sq 14 [mv 3, fa 1 1, ld 15, ln 16, bn .lss 14 17])) (.cond (t0 18) .skip (.exit 0))) (.seq (.block 1 (.seq (.draw (sq 21 [fa 0 1, la 1 21, fa 1 1, ld 23, mv 3, ix 2 24 25, la 2 26, cf 67 [22, 27], nt 28]) [[], [0], [], [2], [], [3, 4], [5], [1, 6], [7]]) (.cond (t0 29) (.seq (.reg (sq 2 [mb false])) .ret) .skip))) (.reg (sq 19 [mv 3, bi .add 19 1] ++ sq 3 [mv 20]))))))) (.seq (.reg (sq 2 [mb true])) .ret))))
theorem fn29 : MFn Tryz.prog 29 mc29 30 [.tmp 2] := ⟨_, Tryz.func29, by kernel_rfl, Tryz.ntmps29, by kernel_rfl⟩
def F_spec_SystemOk_l1 (sys : ((List Int) × (List ((List Int) × (List Int))))) : Int -> Option (Int ⊕ Bool)
 | i =>
  if (decide (i < (sys.2.length : Int))) = true then
   if 0 <= i /\ i < (sys.2.length : Int) then
    (F_spec_RuleOk sys.1 ((sys.2.getD i.toNat default).1, (sys.2.getD i.toNat default).2)).bind fun r_1 =>
    if r_1 = true then
     some (.inl (IntKind.i64.wrap (i + 1)))
    else
     Option.map Sum.inr (
      some false)
   else none
  else
   Option.map Sum.inr (
    some true)
def F_spec_SystemOk (sys : ((List Int) × (List ((List Int) × (List Int))))) : Option Bool :=
 (F_spec_SigOk sys.1).bind fun r =>
 if r = true then
  if (decide (12 < (sys.2.length : Int))) = true then
   some false
  else
   loopC (F_spec_SystemOk_l1 sys) 0
 else
  some false
instance c_spec_SystemOk {sys : ((List Int) × (List ((List Int) × (List Int))))} : HasC (F_spec_SystemOk sys) fun rr => PFun Tryz.prog 29 [D_impl_System sys] (bD rr) := ⟨@fun rr h => by
 delta F_spec_SystemOk at h
 refine fn29.pureL (vcm_sound ?_)
 delta mc29
 refine stp ?_
 refine rC h fun r hr h => ?_
 refine iT h fun hc h => ?_
 refine iF h fun hc h => ?_
 refine m_lW h [2, 3, 14, 15, 16, 17, 18, 19, 20, 21, 22, 23, 24, 25, 26, 27, 28, 29] (fun pp => [(3, .d (iD pp))]) (fun pp => [(1, .obj 33 [.d (slD 1 iD sys.1), .d (slD 2 D_impl_Rule sys.2)])]) ?_
 rintro i t1 h hb1
 unfold F_spec_SystemOk_l1 at h
 try dsimp only at h
 refine vcm_sound (stp ?_)
 exact aut⟩
end Go.Proofs.YtglpjlpmijfocaaGreat
