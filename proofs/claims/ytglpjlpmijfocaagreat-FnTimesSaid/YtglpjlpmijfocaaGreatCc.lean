/- The layer of data and running functions, and its rules; nothing is assumed. -/
import Derived.Test.YtglpjlpmijfocaaGreatCb
set_option linter.all false
noncomputable section
namespace Abx
open Go
abbrev Post := Exit -> List AV -> Sto -> Prop
structure Ext (C C' : Ctx) : Prop where
 size : C.w.heap.size <= C'.w.heap.size
 k : C'.k = C.k
 ro : C'.ro = C.ro
 nm : C'.nm = C.nm
 dom : C'.dom = C.dom
 O : C'.O = C.O
 inv : ∀ β s w, Inv C' β s w -> Inv C β s w
theorem Ext.refl (C : Ctx) : Ext C C := ⟨Nat.le_refl _, rfl, rfl, rfl, rfl, rfl, fun _ _ _ h => h⟩
theorem Ext.trans {C C' C'' : Ctx} (h : Ext C C') (h' : Ext C' C'') : Ext C C'' :=
 ⟨Nat.le_trans h.size h'.size, h'.k.trans h.k, h'.ro.trans h.ro, h'.nm.trans h.nm, h'.dom.trans h.dom, h'.O.trans h.O, fun β s w hi => h.inv β s w (h'.inv β s w hi)⟩
theorem Ext.fence {C C' : Ctx} (h : Ext C C') : C'.fence = C.fence := by unfold Ctx.fence; rw [h.ro]
theorem Ext.forb {C C' : Ctx} (h : Ext C C') (β : Beta) (s : Sto) : C'.forb β s = C.forb β s := by unfold Ctx.forb; rw [h.O]
def Ctx.plain (C : Ctx) : Prop := C.ro = none /\ C.nm = false /\ C.dom <= C.w.heap.size
theorem Ext.plain {C C' : Ctx} (h : Ext C C') (hp : C.plain) : C'.plain := ⟨h.ro.trans hp.1, h.nm.trans hp.2.1, by rw [h.dom]; exact Nat.le_trans hp.2.2 h.size⟩
def CWp (P : Program) (C : Ctx) (c : Code) (Q : Post) (env : List AV) (s : Sto) : Prop :=
 ∀ β a w, St C β env s a w -> c.wpIn C.fence 0 P (fun e a' w' => ∃ C', Ext C C' /\ ∃ β' env' s', St C' β' env' s' a' w' /\ Q e env' s') a w
def MCode.flat : MCode -> Bool
 | .seq a b => a.flat && b.flat
 | .cond _ a b => a.flat && b.flat
 | .block _ a => a.flat
 | .loop a => a.flat
 | .ghost a => a.flat
 | .rng .. => false
 | _ => true
def MWp (P : Program) (k : Nat) (mc : MCode) (Q : Post) (env : List AV) (s : Sto) : Prop :=
 ∀ C : Ctx, C.k = k -> (mc.flat = true ∨ C.plain) -> ∀ c, mini P c = some mc.erase -> CWp P C c Q env s
def thenQ (K : List AV -> Sto -> Prop) (Q : Post) : Post
 | .normal, env, s => K env s
 | e, env, s => Q e env s
def blockQ (id : Nat) (Q : Post) : Post
 | .exit id', env, s => if id' = id then Q .normal env s else Q (.exit id') env s
 | e, env, s => Q e env s
def vops (P : Program) (k0 : Nat) : List MOper -> List AV -> Sto -> (List AV -> Sto -> Prop) -> Prop
 | [], env, s, K => K env s
 | m :: ms, env, s, K => match m.guard with
  | none => vop P k0 m.op env s fun x env s => vops P k0 ms (setD m.dst env x) s K
  | some (g, want) => match g with
   | none => vops P k0 ms (setD m.dst env (.tup [])) s K
   | some d => match env.getD d .junk with
    | .d (.lit (.bool b)) => Br b want (vop P k0 m.op env s fun x env s => vops P k0 ms (setD m.dst env x) s K) (vops P k0 ms (setD m.dst env (.tup [])) s K)
    | .tup [] => vops P k0 ms (setD m.dst env (.tup [])) s K
    | _ => False
theorem mini_skip {P : Program} {c : Code} (h : mini P c = some .skip) : c = .skip := by
 cases c <;> simp [mini, Option.bind_eq_some_iff, Option.map_eq_some_iff] at h ⊢
 case region => obtain ⟨ms, _, h⟩ := h; split at h <;> cases h
theorem mini_ret {P : Program} {c : Code} (h : mini P c = some .ret) : c = .ret := by
 cases c <;> simp [mini, Option.bind_eq_some_iff, Option.map_eq_some_iff] at h ⊢
 case region => obtain ⟨ms, _, h⟩ := h; split at h <;> cases h
theorem mini_exit {P : Program} {c : Code} {id : Nat} (h : mini P c = some (.exit id)) : c = .exit id := by
 cases c <;> simp [mini, Option.bind_eq_some_iff, Option.map_eq_some_iff] at h ⊢
 case region => obtain ⟨ms, _, h⟩ := h; split at h <;> cases h
 case exit => exact h
theorem mini_seq {P : Program} {c : Code} {x y : MCode} (h : mini P c = some (.seq x y)) : ∃ a b, c = .seq a b /\ mini P a = some x /\ mini P b = some y := by
 cases c <;> simp [mini, Option.bind_eq_some_iff, Option.map_eq_some_iff] at h ⊢
 case region => obtain ⟨ms, _, h⟩ := h; split at h <;> cases h
 case seq => exact ⟨_, _, ⟨rfl, rfl⟩, h⟩
theorem mini_cond {P : Program} {c : Code} {o : Operand} {x y : MCode} (h : mini P c = some (.cond o x y)) : ∃ a b, c = .cond o a b /\ mini P a = some x /\ mini P b = some y := by
 cases c <;> simp [mini, Option.bind_eq_some_iff, Option.map_eq_some_iff] at h ⊢
 case region => obtain ⟨ms, _, h⟩ := h; split at h <;> cases h
 case cond => obtain ⟨x', h1, y', h2, rfl, rfl, rfl⟩ := h; exact ⟨_, _, ⟨rfl, rfl, rfl⟩, h1, h2⟩
theorem mini_block {P : Program} {c : Code} {id : Nat} {x : MCode} (h : mini P c = some (.block id x)) : ∃ a, c = .block id a /\ mini P a = some x := by
 cases c <;> simp [mini, Option.bind_eq_some_iff, Option.map_eq_some_iff] at h ⊢
 case region => obtain ⟨ms, _, h⟩ := h; split at h <;> cases h
 case block => exact ⟨_, ⟨h.2, rfl⟩, h.1⟩
theorem mini_loop {P : Program} {c : Code} {x : MCode} (h : mini P c = some (.loop x)) : ∃ a, c = .loop a /\ mini P a = some x := by
 cases c <;> simp [mini, Option.bind_eq_some_iff, Option.map_eq_some_iff] at h ⊢
 case region => obtain ⟨ms, _, h⟩ := h; split at h <;> cases h
 case loop => exact h
theorem mini_rng {P : Program} {c : Code} {g : Operand} {ps : List Nat} {x y : MCode} (h : mini P c = some (.rng g ps x y)) :
 ∃ ps' a b, c = .rangeFunc g ps' a b /\ ps'.toList = ps /\ mini P a = some x /\ mini P b = some y := by
 cases c <;> simp [mini, Option.bind_eq_some_iff, Option.map_eq_some_iff] at h ⊢
 case region => obtain ⟨ms, _, h⟩ := h; split at h <;> cases h
 case rangeFunc => obtain ⟨x', h1, y', h2, rfl, rfl, rfl, rfl⟩ := h; exact ⟨_, _, _, ⟨rfl, rfl, rfl, rfl⟩, rfl, h1, h2⟩
theorem mini_reg {P : Program} {c : Code} {ms : List MOper} (h : mini P c = some (.reg ms)) : ∃ id ops, c = .region id ops false /\ ops.toList.mapM (miniOper P ops) = some ms := by
 cases c <;> simp [mini, Option.bind_eq_some_iff, Option.map_eq_some_iff] at h ⊢
 case region =>
  obtain ⟨ms', h1, h2⟩ := h
  split at h2
  ·cases h2
  ·rename_i hd; cases h2; exact ⟨_, _, ⟨rfl, rfl, by simpa using hd⟩, h1⟩
section
variable {P : Program} {k : Nat} {Q : Post} {env : List AV} {s : Sto}
theorem flat_and {x y : Bool} {p : Prop} (h : (x && y) = true ∨ p) : (x = true ∨ p) /\ (y = true ∨ p) := by
 rcases h with h | h
 ·rw [Bool.and_eq_true] at h; exact ⟨.inl h.1, .inl h.2⟩
 ·exact ⟨.inr h, .inr h⟩
theorem m_skip (h : Q .normal env s) : MWp P k .skip Q env s := fun C _ _ c hc β a w hst => by
 rw [mini_skip hc]; exact wpIn_skip ⟨C, .refl C, β, env, s, hst, h⟩
theorem m_ret (h : Q .ret env s) : MWp P k .ret Q env s := fun C _ _ c hc β a w hst => by
 rw [mini_ret hc]; exact wpIn_ret ⟨C, .refl C, β, env, s, hst, h⟩
theorem m_exit {id : Nat} (h : Q (.exit id) env s) : MWp P k (.exit id) Q env s := fun C _ _ c hc β a w hst => by
 rw [mini_exit hc]; exact wpIn_exit ⟨C, .refl C, β, env, s, hst, h⟩
theorem m_seq {x y : MCode} (h : MWp P k x (thenQ (fun env s => MWp P k y Q env s) Q) env s) : MWp P k (.seq x y) Q env s := fun C hC hf c hc β a w hst => by
 obtain ⟨c1, c2, rfl, h1, h2⟩ := mini_seq hc
 obtain ⟨f1, f2⟩ := flat_and hf
 refine wpIn_seq (wpIn_mono (h C hC f1 c1 h1 β a w hst) fun e a' w' he => ?_)
 obtain ⟨C', hx, β', env', s', hst', hq⟩ := he
 cases e with
 | normal =>
  have := hq C' (hx.k.trans hC) (f2.imp id hx.plain) c2 h2 β' a' w' hst'
  rw [hx.fence] at this
  exact wpIn_mono this fun e a' w' ⟨C'', hx', r⟩ => ⟨C'', hx.trans hx', r⟩
 | exit id => exact ⟨C', hx, β', env', s', hst', hq⟩
 | goto l => exact ⟨C', hx, β', env', s', hst', hq⟩
 | ret => exact ⟨C', hx, β', env', s', hst', hq⟩
 | panic ch => exact ⟨C', hx, β', env', s', hst', hq⟩
 | outgrown => exact ⟨C', hx, β', env', s', hst', hq⟩
theorem m_block {id : Nat} {x : MCode} (h : MWp P k x (blockQ id Q) env s) : MWp P k (.block id x) Q env s := fun C hC hf c hc β a w hst => by
 obtain ⟨c1, rfl, h1⟩ := mini_block hc
 refine wpIn_block (wpIn_mono (h C hC hf c1 h1 β a w hst) fun e a' w' he => ?_)
 obtain ⟨C', hx, β', env', s', hst', hq⟩ := he
 cases e with
 | exit id' =>
  simp only [blockQ] at hq
  simp only [Exit.inBlock]
  split <;> rename_i hid <;> simp only [hid, if_true, if_false] at hq <;> exact ⟨C', hx, β', env', s', hst', hq⟩
 | normal => exact ⟨C', hx, β', env', s', hst', hq⟩
 | goto l => exact ⟨C', hx, β', env', s', hst', hq⟩
 | ret => exact ⟨C', hx, β', env', s', hst', hq⟩
 | panic ch => exact ⟨C', hx, β', env', s', hst', hq⟩
 | outgrown => exact ⟨C', hx, β', env', s', hst', hq⟩
theorem m_cond {o : Operand} {x y : MCode} {b : Bool} (hb : ev env o = .d (.lit (.bool b))) (h : Br b true (MWp P k x Q env s) (MWp P k y Q env s)) :
 MWp P k (.cond o x y) Q env s := fun C hC hf c hc β a w hst => by
 obtain ⟨c1, c2, rfl, h1, h2⟩ := mini_cond hc
 obtain ⟨f1, f2⟩ := flat_and hf
 have hv := hst.ev o
 rw [hb] at hv
 refine wpIn_cond (lit_ok hv) ?_
 unfold Br at h
 cases b with
 | true => exact h C hC f1 c1 h1 β a w hst
 | false => exact h C hC f2 c2 h2 β a w hst
def Weak (k : Nat) (env : List AV) (s : Sto) (env' : List AV) (s' : Sto) : Prop :=
 ∀ (C : Ctx) (β : Beta) (a : Act) (w : World), C.k = k -> St C β env s a w -> ∃ β', St C β' env' s' a w
theorem m_ghost {x : MCode} {env' : List AV} {s' : Sto} (hw : Weak k env s env' s') (h : MWp P k x Q env' s') : MWp P k (.ghost x) Q env s := fun C hC hf c hc β a w hst => by
 obtain ⟨β', hst'⟩ := hw C β a w hC hst
 exact h C hC hf c hc β' a w hst'
theorem m_loop {x : MCode} {ι : Type} (E : ι -> List AV) (S : ι -> Sto) (inv : ι -> Prop) (μ : ι -> Nat) (i0 : ι) (h0 : inv i0) (hw : Weak k env s (E i0) (S i0))
 (round : ∀ i, inv i -> MWp P k x (thenQ (fun env' s' => ∃ i', inv i' /\ μ i' < μ i /\ Weak k env' s' (E i') (S i')) Q) (E i) (S i)) : MWp P k (.loop x) Q env s :=
 fun C hC hf c hc β a w hst => by
 obtain ⟨c1, rfl, h1⟩ := mini_loop hc
 obtain ⟨β0, hst0⟩ := hw C β a w hC hst
 intro b kk cs hro hb hr
 have key : ∀ n i C' β a w, Ext C C' -> μ i = n -> inv i -> St C' β (E i) (S i) a w ->
  ∃ e a' w', (∃ C'', Ext C C'' /\ ∃ β' env' s', St C'' β' env' s' a' w' /\ Q e env' s') /\ ArrivesIn (Machine.fenced P C.fence) P (lone (b.atR a (.code c1 :: .inLoop c1 :: kk)) cs w) b kk cs e a' w' := by
  intro n
  induction n using Nat.strongRecOn with
  | _ n ih =>
   intro i C' β a w hx hn hi hst
   have hrd := round i hi C' (hx.k.trans hC) (hf.imp id hx.plain) c1 h1 β a w hst
   rw [hx.fence] at hrd
   obtain ⟨e, a₁, w₁, hq, harr⟩ := hrd b (.inLoop c1 :: kk) cs hro hb hr
   obtain ⟨C'', hx', β', env', s', hst', hq⟩ := hq
   have hxx := hx.trans hx'
   cases e with
   | normal =>
    obtain ⟨i', hi', hlt, hwk⟩ := hq
    obtain ⟨β2, hst2⟩ := hwk C'' β' a₁ w₁ (hxx.k.trans hC) hst'
    obtain ⟨e₂, a₂, w₂, hq₂, harr₂⟩ := ih (μ i') (hn ▸ hlt) i' C'' β2 a₁ w₁ hxx rfl hi' hst2
    exact ⟨e₂, a₂, w₂, hq₂, .of_steps (StepsIn.trans harr (.one (fenced_calm hb hr rfl) stepR_inLoop)) harr₂⟩
   | exit id => exact ⟨_, a₁, w₁, ⟨C'', hxx, β', env', s', hst', hq⟩, .pass (x := .inLoop c1) rfl (fun _ _ => .inl (by simp)) harr⟩
   | goto l => exact ⟨_, a₁, w₁, ⟨C'', hxx, β', env', s', hst', hq⟩, .pass (x := .inLoop c1) rfl (fun _ _ => .inl (by simp)) harr⟩
   | ret => exact ⟨_, a₁, w₁, ⟨C'', hxx, β', env', s', hst', hq⟩, .pass (x := .inLoop c1) rfl (fun _ _ => .inl (by simp)) harr⟩
   | panic ch => exact ⟨_, a₁, w₁, ⟨C'', hxx, β', env', s', hst', hq⟩, .pass (x := .inLoop c1) rfl (fun _ _ => .inl (by simp)) harr⟩
   | outgrown => exact ⟨_, a₁, w₁, ⟨C'', hxx, β', env', s', hst', hq⟩, .pass (x := .inLoop c1) rfl (fun _ _ => .inl (by simp)) harr⟩
 obtain ⟨e, a', w', hq, harr⟩ := key _ i0 C β0 a w (.refl C) rfl h0 hst0
 exact ⟨e, a', w', hq, .of_steps (.one (fenced_calm hb hr rfl) stepR_loop) harr⟩
end
theorem miniOper_spec {P : Program} {ops : Array Oper} {o : Oper} {m : MOper} (h : miniOper P ops o = some m.erase) :
 m.op.erase = (miniOp P o).getD .dead /\ m.dst = o.dst /\ m.guard = o.guard.map fun (j, b) => ((ops[j]?).bind (·.dst), b) := by
 unfold miniOper MOper.erase at h
 simp only [Option.some.injEq, MOper.mk.injEq] at h
 exact ⟨h.2.1.symm, h.1.symm, h.2.2.symm⟩
theorem wanted_none {o : Oper} {y : Nat -> Option Bool} (h : o.guard = none) : Region.wanted o y = true := by simp [Region.wanted, h]
theorem yielded_bool {C : Ctx} {β : Beta} {env : List AV} {s : Sto} {a : Act} {w : World} (hst : St C β env s a w) {ops : Array Oper} {j d : Nat} {b : Bool}
 (hd : (ops[j]?).bind (·.dst) = some d) (hb : env.getD d .junk = .d (.lit (.bool b))) : yielded ops a.tmps j = some b := by
 have h1 := hst.ev (.tmp d)
 simp only [ev] at h1
 rw [hb] at h1
 have h1 := lit_ok h1
 simp only [Act.eval] at h1
 unfold yielded
 rw [hd]
 simp only [Option.bind_some]
 have hlt : d < a.tmps.size := by
  rcases Nat.lt_or_ge d a.tmps.size with h | h
  ·exact h
  ·have : a.tmps.getD d undef = undef := by simp [Array.getD_eq_getD_getElem?, Array.getElem?_eq_none h]
   rw [this] at h1
   cases h1
 have h2 : a.tmps[d]? = some (.bool b) := by
  rw [Array.getElem?_eq_getElem hlt]
  rw [Array.getD_eq_getD_getElem?, Array.getElem?_eq_getElem hlt] at h1
  simpa using h1
 rw [h2]
theorem yielded_skip {C : Ctx} {β : Beta} {env : List AV} {s : Sto} {a : Act} {w : World} (hst : St C β env s a w) {ops : Array Oper} {j d : Nat}
 (hd : (ops[j]?).bind (·.dst) = some d) (hb : env.getD d .junk = .tup []) : yielded ops a.tmps j = none := by
 have h1 := hst.ev (.tmp d)
 simp only [ev] at h1
 rw [hb] at h1
 simp only [AV.ok, AV.oks, Act.eval] at h1
 obtain ⟨vs, h1, _⟩ := h1
 unfold yielded
 rw [hd]
 simp only [Option.bind_some]
 cases hx : a.tmps[d]? with
 | none => rfl
 | some v =>
  have : a.tmps.getD d undef = v := by rw [Array.getD_eq_getD_getElem?, hx]; rfl
  rw [this] at h1
  subst h1
  rfl
theorem guard_sound {P : Program} {C : Ctx} {ops : Array Oper} {o : Oper} {m : MOper} (hm : miniOper P ops o = some m.erase) {env : List AV} {s : Sto} {K : List AV -> Sto -> Prop}
 (hk : match m.guard with
  | none => vop P C.k m.op env s fun x env s => K (setD m.dst env x) s
  | some (g, want) => match g with
   | none => K (setD m.dst env (.tup [])) s
   | some d => match env.getD d .junk with
    | .d (.lit (.bool b)) => Br b want (vop P C.k m.op env s fun x env s => K (setD m.dst env x) s) (K (setD m.dst env (.tup [])) s)
    | .tup [] => K (setD m.dst env (.tup [])) s
    | _ => False)
 {β : Beta} {a : Act} {w : World} (hst : St C β env s a w) {Q : Exit -> Act -> World -> Prop} {next : Act -> World -> Prop}
 (hn : ∀ β' env' s' a' w', St C β' env' s' a' w' -> K env' s' -> next a' w') :
 if Region.wanted o (yielded ops a.tmps) then o.wpIn C.fence 0 P a w next Q else (∀ f, o.about P w a.eval = some f -> C.fence.fn f) /\ next (a.put o.dst undef) w := by
 obtain ⟨h1, h2, h3⟩ := miniOper_spec hm
 have run : vop P C.k m.op env s (fun x env s => K (setD m.dst env x) s) -> o.wpIn C.fence 0 P a w next Q := fun h => by
  rw [h2] at h
  have h1' : miniOp P o = some m.op.erase := by
   cases hq : miniOp P o with
   | some x => rw [hq] at h1; rw [h1]; rfl
   | none =>
    rw [hq] at h1
    simp only [Option.getD_none] at h1
    have : m.op = .dead := by cases hmo : m.op <;> rw [hmo] at h1 <;> simp [MOp.erase] at h1 ⊢
    rw [this] at h
    exact h.elim
  have hnd : ∀ c, o.op ≠ .defer c := fun c hc => by unfold miniOp at h1'; rw [hc] at h1'; cases h1'
  have := vop_sound h1' h hnd Q β a w hst
  exact Oper.wpIn_mono (fun a' w' ⟨β', env', s', h4, h5⟩ => hn β' env' s' a' w' h4 h5) this
 have skip : K (setD m.dst env (.tup [])) s -> (∀ f, o.about P w a.eval = some f -> C.fence.fn f) /\ next (a.put o.dst undef) w := fun h => by
  rw [h2] at h
  refine ⟨fun _ _ => trivial, ?_⟩
  exact hn _ _ _ _ _ (hst.put (x := .tup []) (v := undef) (by simp [AV.ok, AV.oks, undef]) o.dst) h
 cases hg : o.guard with
 | none =>
  rw [hg] at h3
  simp only [Option.map_none] at h3
  rw [h3] at hk
  rw [if_pos (wanted_none hg)]
  exact run hk
 | some p =>
  obtain ⟨j, want⟩ := p
  rw [hg] at h3
  simp only [Option.map_some] at h3
  rw [h3] at hk
  have hw : Region.wanted o (yielded ops a.tmps) = (yielded ops a.tmps j == some want) := by simp [Region.wanted, hg]
  rw [hw]
  cases hd : (ops[j]?).bind (·.dst) with
  | none =>
   rw [hd] at hk
   have : yielded ops a.tmps j = none := by simp [yielded, hd]
   rw [this]
   exact skip hk
  | some d =>
   rw [hd] at hk
   simp only at hk
   split at hk
   ·rename_i b hb
    rw [yielded_bool hst hd hb]
    unfold Br at hk
    by_cases hbw : b = want
    ·rw [if_pos hbw] at hk
     subst hbw
     rw [if_pos (by simp)]
     exact run hk
    ·rw [if_neg hbw] at hk
     rw [if_neg (by simpa using hbw)]
     exact skip hk
   ·rename_i hb
    rw [yielded_skip hst hd hb]
    exact skip hk
   ·exact hk.elim
theorem vops_sound {P : Program} {C : Ctx} {ops : Array Oper} {Q : Post} : ∀ (n i : Nat) (ms : List MOper) (env : List AV) (s : Sto), i + n = ops.size ->
 (ops.toList.drop i).mapM (miniOper P ops) = some (ms.map MOper.erase) -> vops P C.k ms env s (fun env s => Q .normal env s) ->
 ∀ (β : Beta) (a : Act) (w : World), St C β env s a w -> wpOpsIn C.fence 0 P ops (fun e a' w' => ∃ C', Ext C C' /\ ∃ β' env' s', St C' β' env' s' a' w' /\ Q e env' s') (List.range' i n) a w
 | 0, i, ms, env, s => fun hi hm hk β a w hst => by
  have : ops.toList.drop i = [] := by apply List.drop_eq_nil_of_le; simp; omega
  rw [this] at hm
  simp at hm
  subst hm
  exact ⟨C, .refl C, β, env, s, hst, hk⟩
 | n + 1, i, ms, env, s => fun hi hm hk β a w hst => by
  have hlt : i < ops.toList.length := by simp; omega
  rw [List.drop_eq_getElem_cons hlt] at hm
  simp only [List.mapM_cons, Option.bind_eq_bind, Option.bind_eq_some_iff] at hm
  obtain ⟨m0, h1, ms0, h2, h3⟩ := hm
  cases ms with
  | nil => cases h3
  | cons m ms' =>
  simp only [List.map_cons, Option.pure_def, Option.some.injEq, List.cons.injEq] at h3
  obtain ⟨rfl, rfl⟩ := h3
  rw [List.range'_succ]
  simp only [wpOpsIn]
  have ho : ops[i]? = some ops.toList[i] := by simp at hlt; simp [hlt]
  rw [ho]
  simp only
  refine guard_sound (K := fun env s => vops P C.k ms' env s fun env s => Q .normal env s) h1 ?_ hst fun β' env' s' a' w' h4 h5 => vops_sound n (i + 1) ms' env' s' (by omega) h2 h5 β' a' w' h4
  simpa only [vops] using hk
theorem m_reg {P : Program} {k : Nat} {Q : Post} {env : List AV} {s : Sto} {ms : List MOper} (h : vops P k ms env s fun env s => Q .normal env s) : MWp P k (.reg ms) Q env s :=
 fun C hC _ c hc β a w hst => by
 obtain ⟨id, ops, rfl, hm⟩ := mini_reg hc
 subst hC
 refine wpIn_region ?_
 have := vops_sound (Q := Q) (ops := ops) ops.size 0 ms env s (by omega) (by simpa using hm) h β a w hst
 rwa [<- List.range_eq_range'] at this
inductive MRes where
 | tmp (t : Nat)
 | cell (a n : Nat) (ag : Bool)
def miniRes (P : Program) : ResultVar -> Option MRes
 | .tmp t => some (.tmp t)
 | .cell a t => (sizeP P t).bind fun n => (aggOf P t).map fun ag => .cell a (if ag then n else 1) ag
def resAV (env : List AV) (s : Sto) : List MRes -> (List AV -> Prop) -> Prop
 | [], K => K []
 | .tmp t :: r, K => resAV env s r fun xs => K (env.getD t .junk :: xs)
 | .cell a n ag :: r, K => loadK n ag (env.getD a .junk) s fun x => resAV env s r fun xs => K (x :: xs)
def mkRes : List AV -> AV
 | [x] => x
 | xs => .tup xs
def finQ (rs : List MRes) (R : AV -> Sto -> Prop) : Post
 | .normal, env, s => resAV env s rs fun xs => R (mkRes xs) s
 | .ret, env, s => resAV env s rs fun xs => R (mkRes xs) s
 | _, _, _ => False
def resM (tmps : Array Value) : ResultVar -> Sem Value
 | .tmp t => pure (tmps.getD t undef)
 | .cell b t => do loadVar t (<- asAddr (tmps.getD b undef))
theorem results_eq (fn : Func) (tmps : Array Value) : results fn tmps = (do let vs <- fn.results.mapM (resM tmps); pure (if h : vs.size = 1 then vs[0] else .tuple vs)) := by
 unfold results
 have : (fun x => match x with | ResultVar.tmp t => (pure (tmps.getD t undef) : Sem Value) | ResultVar.cell a t => do loadVar t (<- asAddr (tmps.getD a undef))) = resM tmps := by
  funext x; cases x <;> rfl
 rw [<- this]
 rfl
theorem res_run {P : Program} {C : Ctx} {β : Beta} {env : List AV} {s : Sto} {a : Act} {w : World} (hst : St C β env s a w) : ∀ (rv : List ResultVar) (rs : List MRes) (K : List AV -> Prop),
 rv.mapM (miniRes P) = some rs -> resAV env s rs K ->
 ∃ vs xs, (rv.mapM (resM a.tmps)).run P w = .ok vs w /\
  AV.oks β (C.forb β s) w xs vs /\ K xs
 | [], rs, K => fun h1 h2 => by
  simp at h1
  subst h1
  exact ⟨[], [], by simp, by simp [AV.oks], h2⟩
 | .tmp t :: rv, rs, K => fun h1 h2 => by
  simp only [List.mapM_cons, Option.bind_eq_bind, Option.bind_eq_some_iff, miniRes] at h1
  obtain ⟨_, h3, rs', h4, h5⟩ := h1
  cases h3
  cases h5
  simp only [resAV] at h2
  obtain ⟨vs, xs, h6, h7, h8⟩ := res_run hst rv rs' _ h4 h2
  refine ⟨a.tmps.getD t undef :: vs, _, ?_, ?_, h8⟩
  ·rw [List.mapM_cons]
   simp only [resM, Sem.run_bind, Sem.run_pure, Result.andThen_ok, h6]
  ·simp only [AV.oks]; exact ⟨_, _, rfl, hst.ev (.tmp t), h7⟩
 | .cell b t :: rv, rs, K => fun h1 h2 => by
  simp only [List.mapM_cons, Option.bind_eq_bind, Option.bind_eq_some_iff, Option.map_eq_some_iff, miniRes] at h1
  obtain ⟨_, ⟨n, hn, ag, hg, h3⟩, rs', h4, h5⟩ := h1
  subst h3
  cases h5
  simp only [resAV] at h2
  obtain ⟨v, x, h6, h7, h8⟩ := load_core (P := P) hn hg hst (hst.ev (.tmp b)) h2
  obtain ⟨vs, xs, h9, h10, h11⟩ := res_run hst rv rs' _ h4 h8
  refine ⟨v :: vs, x :: xs, ?_, ?_, h11⟩
  ·rw [List.mapM_cons]
   have hload : (asAddr (a.tmps.getD b undef) >>= fun ad => loadVar t ad : Sem Value).run P w = .ok v w := by
    simp only [Instr.loadAt, Act.eval] at h6
    simp only [Sem.run_bind] at h6 ⊢
    cases hv : a.tmps.getD b undef with
    | pointer ad =>
     cases ad with
     | some ad => rw [hv] at h6; simpa [Instr.sureAddr, asAddr] using h6
     | none => rw [hv] at h6; simp [Instr.sureAddr] at h6
    | _ => rw [hv] at h6; simp [Instr.sureAddr] at h6
   simp only [Sem.run_bind] at hload
   simp only [resM, Sem.run_bind, hload, Result.andThen_ok, h9, Sem.run_pure]
  ·simp only [AV.oks]; exact ⟨_, _, rfl, h7, h10⟩
theorem leaves_marks {P : Program} {fn : Func} {tmps : Array Value} {R : Ending -> World -> Prop} (Z : World -> Prop) {B : Nat}
 (hZ : ∀ w w' D, Z w -> w.grownBy w' (some D) -> B <= D -> (∃ o : Obj, w.heap[D]? = some o /\ Odd o) -> Z w')
 (hfin : ∀ w, Z w -> ∃ v, (results fn tmps).run P w = .ok v w /\ R (.returned v) w) :
 ∀ (Ds : List Nat) (w : World), Ds.Nodup -> (∀ D ∈ Ds, B <= D /\ w.heap[D]? = some (.deferred (some []))) -> Z w -> LeavesInM Fence.wide 0 P fn tmps R (Ds.map markOf) .returning w
 | [], w, _, _, hz => by simp only [List.map_nil, LeavesInM, LeavesIn]; exact hfin w hz
 | D :: Ds, w, hn, hd, hz => by
  simp only [List.map_cons, LeavesInM]
  have h1 := hd D List.mem_cons_self
  rw [List.nodup_cons] at hn
  refine ⟨by simp, .inl ⟨D, _, rfl, run_takeDeferred h1.2, leaves_marks Z hZ hfin Ds _ hn.2 (fun D' hD' => ?_) ?_⟩⟩
  ·have h2 := hd D' (List.mem_cons_of_mem _ hD')
   exact ⟨h2.1, (World.putObj_heap_other fun e => hn.1 (by rw [<- e]; exact hD')).trans h2.2⟩
  ·exact hZ _ _ D hz (grownBy_putObj' w D _) h1.1 ⟨_, h1.2, rfl, rfl⟩
theorem acalls_of {P : Program} {f : Nat} {fn : Func} {c : Code} {mc : MCode} {rs : List MRes} {args : List AV} {s : Sto} {k n : Nat} {R : AV -> Sto -> Prop}
 (hf : P.funcs[f]? = some fn) (hb : fn.body = some c) (hm : mini P c = some mc.erase) (hn : fn.ntmps = n) (hr : fn.results.toList.mapM (miniRes P) = some rs)
 (h : MWp P k mc (finQ rs R) (args ++ List.replicate (n - args.length) .junk) s) : ACalls P f args s k R := by
 intro C vs hCs hCk hinv hargs
 have hlen := AV.oks_length hargs
 let C0 : Ctx := { C with ro := none, dom := C.w.heap.size, nm := false }
 refine callsIn_wide.1 (callsIn_of_wp_marks (F := Fence.wide) (n := 0) hf hb trivial ?_)
 have hst : St C0 C.β (args ++ List.replicate (n - args.length) .junk) s { tmps := vs ++ Array.replicate (fn.ntmps - vs.size) undef, defers := [] } C.w := by
  refine ⟨.nil, hCs ▸ hinv.ro none C.w.heap.size, ?_, fun i x hx => ?_⟩
  ·simp at hlen
   simp [hn, hlen]
  ·rw [hCs] at hargs
   rw [List.getElem?_append] at hx
   split at hx
   ·rename_i hi
    have hi2 : i < vs.size := by simp at hlen; omega
    have h1 : (vs ++ Array.replicate (fn.ntmps - vs.size) undef).getD i undef = vs[i] := by
     simp [Array.getD_eq_getD_getElem?, Array.getElem?_append, hi2]
    rw [h1]
    exact (AV.oks_iff.1 hargs).2 i x _ hx (by simp [hi2])
   ·have : x = .junk := by
     rw [List.getElem?_replicate] at hx
     split at hx
     ·cases hx; rfl
     ·cases hx
    subst this
    simp [AV.ok]
 refine wpIn_mono (h C0 hCk (.inr ⟨rfl, rfl, Nat.le_refl _⟩) c hm C.β _ _ hst) fun e a' w' he => ?_
 obtain ⟨C', hx, β', env', s', hst', hq⟩ := he
 have fin : resAV env' s' rs (fun xs => R (mkRes xs) s') -> LeavesInM Fence.wide 0 P fn a'.tmps (fun e w' => ∃ v x β' s', e = .returned v /\ Inv C β' s' w' /\ AV.ok β' (C.forb β' s') w' x v /\ R x s') a'.defers .returning w' := fun hq => by
  obtain ⟨_, Ds, hDs, hnd, hmk⟩ := hst'.defers
  rw [hDs]
  refine leaves_marks (B := C.w.heap.size) (fun w => Inv C0 β' s' w /\ ∀ i x, env'[i]? = some x -> AV.ok β' (C0.forb β' s') w x (a'.tmps.getD i undef)) (fun w1 w2 D hz hg hB ho => ?_) (fun w1 hz => ?_) Ds w' hnd (fun D hD => ?_) ⟨hx.inv _ _ _ hst'.inv, fun i x hi => ?_⟩
  ·have hr : ∀ r, some D = some r -> ∃ o : Obj, w1.heap[r]? = some o /\ Odd o := fun r e => by cases e; exact ho
   exact ⟨hz.1.nocell hg fun r e => ⟨by cases e; exact hB, hr r e⟩, fun i x hi => AV.ok_mono (fun b o v hc hn => ⟨cell_kept hc hg (oddC hr), hn⟩) (fun _ => .refl _) _ _ (hz.2 i x hi)⟩
  ·have hst1 : St C0 β' env' s' { a' with defers := [] } w1 := ⟨.nil, hz.1, hst'.len, hz.2⟩
   obtain ⟨us, xs, h1, h2, h3⟩ := res_run hst1 fn.results.toList rs _ hr hq
   refine ⟨if h : us.toArray.size = 1 then us.toArray[0] else .tuple us.toArray, ?_, _, mkRes xs, β', s', rfl, hz.1.ro', ?_, h3⟩
   ·rw [results_eq, Array.mapM_eq_mapM_toList]
    simp only [Sem.run_bind, Sem.run_map]
    rw [h1]
    simp only [Result.andThen_ok, Sem.run_pure]
   ·have hl := AV.oks_length h2
    have hfb : C0.forb β' s' = C.forb β' s' := rfl
    rw [hfb] at h2
    match xs, us, h2 with
    | [x], [u], h2 =>
     simp only [AV.oks] at h2
     obtain ⟨_, _, h4, h5, h6⟩ := h2
     cases h4
     simpa [mkRes] using h5
    | [], [], h2 => simp only [mkRes, AV.ok]; exact ⟨#[], by simp, by simp [AV.oks]⟩
    | x :: y :: xs, u :: v :: us, h2 =>
     simp only [mkRes, AV.ok]
     exact ⟨(u :: v :: us).toArray, by simp, by simpa using h2⟩
  ·obtain ⟨h1, h2, h3, h4⟩ := hmk D hD
   exact ⟨by rw [hx.dom] at h1; exact h1, (hst'.inv.blks D h2 h4).trans h3⟩
  ·have := hst'.env i x hi
   rwa [hx.forb] at this
 cases e with
 | normal => exact fin hq
 | ret => exact fin hq
 | exit id => exact hq.elim
 | goto l => exact hq.elim
 | panic ch => exact hq.elim
 | outgrown => exact hq.elim
structure MFn (P : Program) (f : Nat) (mc : MCode) (n : Nat) (rs : List MRes) : Prop where
 fn : ∃ fn, P.funcs[f]? = some fn /\ fn.body.bind (mini P) = some mc.erase /\ fn.ntmps = n /\ fn.results.toList.mapM (miniRes P) = some rs
theorem MFn.calls {P : Program} {f : Nat} {mc : MCode} {n : Nat} {rs : List MRes} (h : MFn P f mc n rs) {args : List AV} {s : Sto} {k : Nat} {R : AV -> Sto -> Prop}
 (hm : MWp P k mc (finQ rs R) (args ++ List.replicate (n - args.length) .junk) s) : ACalls P f args s k R := by
 obtain ⟨fn, h1, h2, h3, h4⟩ := h.fn
 rw [Option.bind_eq_some_iff] at h2
 obtain ⟨c, h5, h6⟩ := h2
 exact acalls_of h1 h5 h6 h3 h4 hm
def AV.le (x y : AV) : Prop := ∀ β O w v, AV.ok β O w x v -> AV.ok β O w y v
theorem AV.le_refl (x : AV) : AV.le x x := fun _ _ _ _ h => h
theorem AV.le_junk (x : AV) : AV.le x .junk := fun _ _ _ _ _ => by simp [AV.ok]
theorem AV.le_own {e id : Nat} {xs : List D} : AV.le (.own e id xs) (.d (.sl e none xs)) := fun _ _ _ _ h => by simp only [AV.ok] at h ⊢; exact h.1
def EnvLe : List AV -> List AV -> Prop
 | [], [] => True
 | x :: xs, y :: ys => AV.le x y /\ EnvLe xs ys
 | _, _ => False
theorem EnvLe.get : ∀ {xs ys : List AV}, EnvLe xs ys -> xs.length = ys.length /\ ∀ (i : Nat) (y : AV), ys[i]? = some y -> ∃ x, xs[i]? = some x /\ AV.le x y
 | [], [], _ => by simp
 | [], _ :: _, h => h.elim
 | _ :: _, [], h => h.elim
 | x :: xs, y :: ys, h => by
  obtain ⟨h1, h2⟩ := h
  obtain ⟨h3, h4⟩ := EnvLe.get h2
  refine ⟨by simp [h3], fun i z hz => ?_⟩
  cases i with
  | zero => simp at hz; subst hz; exact ⟨x, rfl, h1⟩
  | succ i => simpa using h4 i z (by simpa using hz)
section
variable {k : Nat} {env env' env'' : List AV} {s s' s'' : Sto}
theorem Weak.refl : Weak k env s env s := fun _ β _ _ _ h => ⟨β, h⟩
theorem Weak.trans (h : Weak k env s env' s') (h2 : Weak k env' s' env'' s'') : Weak k env s env'' s'' := fun C β a w hC hst =>
 let ⟨β', h3⟩ := h C β a w hC hst; h2 C β' a w hC h3
theorem Weak.kill (id : Nat) (hid : k <= id) : Weak k env s (AV.rens (killρ id) env) (skill id s) := fun _ _ _ _ hC hst => ⟨_, hst.kill id (hC ▸ hid)⟩
theorem Weak.sto (hs : ∀ id, sat s id = sat s' id) : Weak k env s env s' := fun C β a w hC hst => by
 have h1 : ∀ b o, own β s' b o ↔ own β s b o := by intro b o; unfold own; simp only [hs]
 have h2 : ∀ i b, blockOf β s' i b ↔ blockOf β s i b := by intro i b; unfold blockOf; simp only [hs]
 have m : Moves β s w β s' w := ⟨Nat.le_refl _, rfl, fun _ _ _ h _ => h, fun _ _ _ => rfl, fun b o h => .inl ((h1 b o).1 h), fun q b h => .inl ⟨q, (h2 q b).1 h⟩, fun _ => .refl _⟩
 exact ⟨β, hst.move m (fun q => by rw [<- hs]; exact (hst.inv.obs q).moves m rfl (fun _ _ => rfl) rfl) (fun p q b hp hq => hst.inv.inj p q b ((h2 p b).1 hp) ((h2 q b).1 hq))⟩
end
theorem wrap_i64 {n : Int} (h1 : -9223372036854775808 <= n) (h2 : n < 9223372036854775808) : IntKind.i64.wrap n = n := by
 unfold IntKind.wrap IntKind.bits IntKind.signed
 simp only [Bool.true_and]
 split <;> rename_i h <;> simp at h <;> omega
theorem cAV_int {k : IntKind} {n : Int} : cAV (.int k n) = .d (.lit (.int k n)) := rfl
theorem cAV_bool {b : Bool} : cAV (.bool b) = .d (.lit (.bool b)) := rfl
theorem cAV_string {b : ByteArray} : cAV (.string b) = .d (.lit (.string b)) := rfl
theorem cAV_nil : cAV (.slice none 0 0) = .d (.sl 0 (some true) []) := rfl
theorem cAV_agg0 : cAV (.agg #[]) = .d (.agg []) := rfl
mutual
def AV.toD : AV -> Option D
 | .d x => some x
 | .own e _ xs => some (.sl e none xs)
 | .agg cs => (AV.toDs cs).map .agg
 | .junk => none
 | .ptr _ _ => none
 | .msl _ _ _ _ => none
 | .pv _ => none
 | .tup _ => none
 | .fn _ _ _ => none
 | .gow _ _ _ => none
 | .gptr _ _ _ => none
 | .ful _ _ => none
 | .dp _ => none
 | .mp _ => none
def AV.toDs : List AV -> Option (List D)
 | [] => some []
 | x :: xs => (AV.toD x).bind fun y => (AV.toDs xs).map (y :: ·)
end
def AV.resD : AV -> Option (List D)
 | .tup cs => AV.toDAll cs
 | _ => none
where
 AV.toDAll : List AV -> Option (List D)
 | [] => some []
 | x :: xs => (AV.toD x).bind fun y => (AV.toDAll xs).map (y :: ·)
theorem ACalls.mono {P : Program} {f : Nat} {args : List AV} {s : Sto} {k : Nat} {R R' : AV -> Sto -> Prop} (h : ACalls P f args s k R)
 (hR : ∀ x s, R x s -> ∃ y, AV.le x y /\ R' y s) : ACalls P f args s k R' := fun C vs h1 h2 h3 h4 =>
 (h C vs h1 h2 h3 h4).mono fun _ _ ⟨v, x, β', s', he, hi, hx, hr⟩ => let ⟨y, hle, hr'⟩ := hR x s' hr; ⟨v, y, β', s', he, hi, hle _ _ _ _ hx, hr'⟩
def PFun (P : Program) (f : Nat) (args : List D) (r : D) : Prop := ACalls P f (args.map .d) [] 0 fun x _ => x = .d r
def PFunN (P : Program) (f : Nat) (args : List D) (rs : List D) : Prop := ACalls P f (args.map .d) [] 0 fun x _ => x = .tup (rs.map .d)
theorem EnvLe.oks {β : Beta} {O : Own} {w : World} : ∀ {xs ys : List AV} {vs : List Value}, EnvLe xs ys -> AV.oks β O w xs vs -> AV.oks β O w ys vs
 | [], [], _, _, h => h
 | _ :: _, _ :: _, _, hl, h => by
  simp only [AV.oks] at h ⊢
  obtain ⟨v, r, h1, h2, h3⟩ := h
  exact ⟨v, r, h1, hl.1 _ _ _ _ h2, EnvLe.oks hl.2 h3⟩
 | [], _ :: _, _, hl, _ => hl.elim
 | _ :: _, [], _, hl, _ => hl.elim
theorem ACalls.args {P : Program} {f : Nat} {args dz : List AV} {s : Sto} {k : Nat} {R : AV -> Sto -> Prop} (h : ACalls P f dz s k R) (hl : EnvLe args dz) : ACalls P f args s k R :=
 fun C vs h1 h2 h3 h4 => h C vs h1 h2 h3 (hl.oks h4)
theorem callK_le {P : Program} {k0 f : Nat} {args env : List AV} {s : Sto} {K : AV -> List AV -> Sto -> Prop} {dz : List D} {r : D} (ha : EnvLe (args.map fun x => x.ren (inρ [])) (dz.map .d))
 (hc : PFun P f dz r) (hk : K (.d r) env s) : callK P k0 f args env s K :=
 ⟨[], [], fun x _ => x = .d r, rfl, by simp, by simp, by simp, ACalls.args hc ha, by rintro x s' rfl; exact hk⟩
theorem callK_leN {P : Program} {k0 f : Nat} {args env : List AV} {s : Sto} {K : AV -> List AV -> Sto -> Prop} {dz : List D} {rs : List D} (ha : EnvLe (args.map fun x => x.ren (inρ [])) (dz.map .d))
 (hc : PFunN P f dz rs) (hk : K (.tup (rs.map .d)) env s) : callK P k0 f args env s K := by
 refine ⟨[], [], fun x _ => x = .tup (rs.map .d), rfl, by simp, by simp, by simp, ACalls.args hc ha, ?_⟩
 rintro x s' rfl
 have h2 : ∀ qs : List D, AV.rens (outρ ([] ++ [])) (qs.map .d) = qs.map .d := fun qs => by
  induction qs with
  | nil => rfl
  | cons d ds ih => simp only [List.map_cons, AV.rens, AV.ren, ih]
 simp only [AV.ren, h2]
 exact hk
def junkAll (env : List AV) : List Nat -> List AV
 | [] => env
 | w :: ws => junkAll (env.set w .junk) ws
def putAll (env : List AV) : List (Nat × AV) -> List AV
 | [] => env
 | (w, x) :: r => putAll (env.set w x) r
theorem m_loop' {P : Program} {k : Nat} {Q : Post} {env : List AV} {s : Sto} {x : MCode} {ι : Type} (ws : List Nat) (vs : ι -> List (Nat × AV)) (S : ι -> Sto) (inv : ι -> Prop) (μ : ι -> Nat) (i0 : ι) (h0 : inv i0)
 (hw : Weak k env s (putAll (junkAll env ws) (vs i0)) (S i0))
 (round : ∀ i, inv i -> MWp P k x (thenQ (fun env' s' => ∃ i', inv i' /\ μ i' < μ i /\ Weak k env' s' (putAll (junkAll env ws) (vs i')) (S i')) Q) (putAll (junkAll env ws) (vs i)) (S i)) :
 MWp P k (.loop x) Q env s := m_loop (fun i => putAll (junkAll env ws) (vs i)) S inv μ i0 h0 hw round
theorem le_refl_iff (x : AV) : AV.le x x ↔ True := ⟨fun _ => trivial, fun _ => AV.le_refl x⟩
theorem le_junk_iff (x : AV) : AV.le x .junk ↔ True := ⟨fun _ => trivial, fun _ => AV.le_junk x⟩
theorem le_own_iff {e id : Nat} {xs : List D} : AV.le (.own e id xs) (.d (.sl e none xs)) ↔ True := ⟨fun _ => trivial, fun _ => AV.le_own⟩
def ints (l : List Int) : D := .sl 1 none (l.map iD)
theorem slK_ints (l : List Int) : slK (.d (ints l)) = some (1, l.map iD) := rfl
theorem cells_ints (l : List Int) : AV.cells (.d (ints l)) = some [.d (ints l)] := rfl
theorem acells_ints (l : List Int) : AV.acells (.d (ints l)) = none := rfl
theorem dcells_ints (l : List Int) : dcells (ints l) = [ints l] := rfl
theorem slK_sl {e : Nat} {nl : Option Bool} {xs : List D} : slK (.d (.sl e nl xs)) = some (e, xs) := rfl
theorem slK_own {e id : Nat} {xs : List D} : slK (.own e id xs) = some (e, xs) := rfl
theorem nlK_some {e : Nat} {b : Bool} {xs : List D} : nlK (.d (.sl e (some b) xs)) = some b := rfl
theorem nlK_cons {e : Nat} {xs : List D} : nlK (.d (.sl e none xs)) = none := rfl
theorem nlK_own {e id : Nat} {xs : List D} : nlK (.own e id xs) = none := rfl
theorem nlK_msl {e id off n : Nat} : nlK (.msl e id off n) = some false := rfl
theorem cells_agg {cs : List D} : AV.cells (.d (.agg cs)) = some (cs.map .d) := rfl
theorem cells_agg' {cs : List AV} : AV.cells (.agg cs) = some cs := rfl
theorem cells_lit {u : Value} : AV.cells (.d (.lit u)) = some [.d (.lit u)] := rfl
theorem cells_any : AV.cells (.d .any) = some [.d .any] := rfl
theorem cells_sl {e : Nat} {nl : Option Bool} {xs : List D} : AV.cells (.d (.sl e nl xs)) = some [.d (.sl e nl xs)] := rfl
theorem cells_own {e id : Nat} {xs : List D} : AV.cells (.own e id xs) = some [.own e id xs] := rfl
theorem cells_ptr {id off : Nat} : AV.cells (.ptr id off) = some [.ptr id off] := rfl
theorem cells_msl {e id off n : Nat} : AV.cells (.msl e id off n) = some [.msl e id off n] := rfl
theorem cells_pv {cs : List D} : AV.cells (.pv cs) = some [.pv cs] := rfl
theorem cells_fn {f : Nat} {a b : List AV} : AV.cells (.fn f a b) = some [.fn f a b] := rfl
theorem acells_agg {cs : List D} : AV.acells (.d (.agg cs)) = some (cs.map .d) := rfl
theorem acells_agg' {cs : List AV} : AV.acells (.agg cs) = some cs := rfl
theorem dcells_agg {cs : List D} : dcells (.agg cs) = cs := rfl
theorem dcells_lit {u : Value} : dcells (.lit u) = [.lit u] := rfl
theorem dcells_sl {e : Nat} {nl : Option Bool} {xs : List D} : dcells (.sl e nl xs) = [.sl e nl xs] := rfl
theorem aInt_int {k : IntKind} {n : Int} : aInt (.d (.lit (.int k n))) = some n := rfl
attribute [go_sem] ev cAV_int cAV_bool cAV_string cAV_nil cAV_agg0 setD List.getD_cons_zero List.getD_cons_succ List.set_cons_zero List.set_cons_succ List.cons_append List.nil_append List.length_cons List.length_nil List.replicate List.map_cons List.map_nil sat sset skill killρ AV.rens AV.ren Ob.kill Ob.isDead putParts AV.fin AV.finAll bnd thenQ blockQ finQ resAV mkRes EnvLe AV.toD AV.toDs AV.resD AV.resD.AV.toDAll junkAll putAll le_refl_iff le_junk_iff le_own_iff slK_sl slK_own nlK_some nlK_cons nlK_own nlK_msl cells_agg cells_agg' cells_lit cells_any cells_sl cells_own cells_ptr cells_msl cells_pv cells_fn acells_agg acells_agg' dcells_agg dcells_lit dcells_sl aInt_int slK_ints cells_ints acells_ints dcells_ints
inductive Out where
 | ok (x : AV) (env : List AV) (s : Sto)
 | need (p : Prop) (o : Out)
 | br (b : Bool) (o1 o2 : Out)
 | call (f : Nat) (args env : List AV) (s : Sto)
 | amb (p : Prop) (o1 o2 : Out)
 | bad
def runK (P : Program) (k0 : Nat) (K : AV -> List AV -> Sto -> Prop) : Out -> Prop
 | .ok x env s => K x env s
 | .need p o => p /\ runK P k0 K o
 | .br b o1 o2 => if b = true then runK P k0 K o1 else runK P k0 K o2
 | .call f args env s => callS P k0 f args env s K
 | .amb p o1 o2 => (p -> runK P k0 K o1) /\ runK P k0 K o2
 | .bad => False
def newObjO (id t : Nat) (cs env : List AV) (s : Sto) : Ob -> Out
 | .dead => .ok (.ptr id 0) env (sset s id (.obj t cs))
 | .obj _ _ => .ok (.ptr id 0) (AV.rens (killρ id) env) (sset (skill id s) id (.obj t (AV.rens (killρ id) cs)))
 | .tok _ _ _ => .ok (.ptr id 0) (AV.rens (killρ id) env) (sset (skill id s) id (.obj t (AV.rens (killρ id) cs)))
 | .gro _ _ _ _ => .ok (.ptr id 0) (AV.rens (killρ id) env) (sset (skill id s) id (.obj t (AV.rens (killρ id) cs)))
 | .nst _ _ _ _ => .ok (.ptr id 0) (AV.rens (killρ id) env) (sset (skill id s) id (.obj t (AV.rens (killρ id) cs)))
 | .prv _ _ _ => .ok (.ptr id 0) (AV.rens (killρ id) env) (sset (skill id s) id (.obj t (AV.rens (killρ id) cs)))
 | .mp _ _ _ => .ok (.ptr id 0) (AV.rens (killρ id) env) (sset (skill id s) id (.obj t (AV.rens (killρ id) cs)))
def newTokO (id t e : Nat) (xs : List D) (env : List AV) (s : Sto) : Ob -> Out
 | .dead => .ok (.own e id xs) env (sset s id (.tok t e xs.length))
 | .obj _ _ => .ok (.own e id xs) (AV.rens (killρ id) env) (sset (skill id s) id (.tok t e xs.length))
 | .tok _ _ _ => .ok (.own e id xs) (AV.rens (killρ id) env) (sset (skill id s) id (.tok t e xs.length))
 | .gro _ _ _ _ => .ok (.own e id xs) (AV.rens (killρ id) env) (sset (skill id s) id (.tok t e xs.length))
 | .nst _ _ _ _ => .ok (.own e id xs) (AV.rens (killρ id) env) (sset (skill id s) id (.tok t e xs.length))
 | .prv _ _ _ => .ok (.own e id xs) (AV.rens (killρ id) env) (sset (skill id s) id (.tok t e xs.length))
 | .mp _ _ _ => .ok (.own e id xs) (AV.rens (killρ id) env) (sset (skill id s) id (.tok t e xs.length))
def newGroO (id t e : Nat) (xs : List D) (env : List AV) (s : Sto) : Ob -> Out
 | .dead => .ok (.gow e id xs.length) env (sset s id (.gro t e xs.length (xs.flatMap dcells)))
 | .obj _ _ => .ok (.gow e id xs.length) (AV.rens (killρ id) env) (sset (skill id s) id (.gro t e xs.length (xs.flatMap dcells)))
 | .tok _ _ _ => .ok (.gow e id xs.length) (AV.rens (killρ id) env) (sset (skill id s) id (.gro t e xs.length (xs.flatMap dcells)))
 | .gro _ _ _ _ => .ok (.gow e id xs.length) (AV.rens (killρ id) env) (sset (skill id s) id (.gro t e xs.length (xs.flatMap dcells)))
 | .nst _ _ _ _ => .ok (.gow e id xs.length) (AV.rens (killρ id) env) (sset (skill id s) id (.gro t e xs.length (xs.flatMap dcells)))
 | .prv _ _ _ => .ok (.gow e id xs.length) (AV.rens (killρ id) env) (sset (skill id s) id (.gro t e xs.length (xs.flatMap dcells)))
 | .mp _ _ _ => .ok (.gow e id xs.length) (AV.rens (killρ id) env) (sset (skill id s) id (.gro t e xs.length (xs.flatMap dcells)))
def newMslO (id t e n : Nat) (cs env : List AV) (s : Sto) : Ob -> Out
 | .dead => .ok (.msl e id 0 n) env (sset s id (.obj t cs))
 | .obj _ _ => .ok (.msl e id 0 n) (AV.rens (killρ id) env) (sset (skill id s) id (.obj t cs))
 | .tok _ _ _ => .ok (.msl e id 0 n) (AV.rens (killρ id) env) (sset (skill id s) id (.obj t cs))
 | .gro _ _ _ _ => .ok (.msl e id 0 n) (AV.rens (killρ id) env) (sset (skill id s) id (.obj t cs))
 | .nst _ _ _ _ => .ok (.msl e id 0 n) (AV.rens (killρ id) env) (sset (skill id s) id (.obj t cs))
 | .prv _ _ _ => .ok (.msl e id 0 n) (AV.rens (killρ id) env) (sset (skill id s) id (.obj t cs))
 | .mp _ _ _ => .ok (.msl e id 0 n) (AV.rens (killρ id) env) (sset (skill id s) id (.obj t cs))
def segAV (n off : Nat) (cs : List AV) : Bool -> AV
 | true => AV.mk ((cs.drop off).take n)
 | false => cs.getD off .junk
def segD (n : Nat) (cs : List D) : Bool -> D
 | true => .agg (cs.take n)
 | false => cs.headD .any
def loadO2 (n : Nat) (ag : Bool) (off : Nat) (env : List AV) (s : Sto) : Ob -> Out
 | .obj _ cs => .need (off + n <= cs.length) (.ok (segAV n off cs ag) env s)
 | _ => .bad
def segG (n off : Nat) (cs : List D) : Bool -> D
 | true => .agg ((cs.drop off).take n)
 | false => cs.getD off .any
def loadO3 (n : Nat) (ag : Bool) (k off : Nat) (env : List AV) (s : Sto) : Ob -> Out
 | .gro _ _ m cs => .need (m = k /\ off + n <= cs.length) (.ok (.d (segG n off cs ag)) env s)
 | .prv _ m cs => .need (m = k /\ off + n <= cs.length /\ ag = false /\ n = 1 /\ isDp (cs.getD off .junk) = false) (.ok (cs.getD off .junk) env s)
 | _ => .bad
def loadO (n : Nat) (ag : Bool) (env : List AV) (s : Sto) : AV -> Out
 | .ptr id off => loadO2 n ag off env s (sat s id)
 | .gptr id k off => loadO3 n ag k off env s (sat s id)
 | .pv cs => .need (n <= cs.length) (.ok (.d (segD n cs ag)) env s)
 | _ => .bad
def storeO2 (n off id : Nat) (env : List AV) (s : Sto) : Ob -> Option (List AV) -> Out
 | .obj t cs, some xs => .need (xs.length = n /\ off + n <= cs.length) (.ok .junk env (sset s id (.obj t (cs.take off ++ xs ++ cs.drop (off + n)))))
 | _, _ => .bad
def storeO4 (n k off id e m : Nat) (cs : List AV) (env : List AV) (s : Sto) : Option (List AV) -> Out
 | some xs => .need (m = k /\ xs.length = n /\ 0 < n /\ off + n <= cs.length /\ noDp xs = true) (.ok .junk env (sset s id (.prv e m (cs.take off ++ xs ++ cs.drop (off + n)))))
 | none => .bad
def storeO3 (n k off id : Nat) (env : List AV) (s : Sto) (X : Option (List AV)) : Ob -> Option D -> Out
 | .gro t e m cs, some d => .need (m = k /\ (dcells d).length = n /\ off + n <= cs.length) (.ok .junk env (sset s id (.gro t e m (cs.take off ++ dcells d ++ cs.drop (off + n)))))
 | .prv e m cs, _ => storeO4 n k off id e m cs env s X
 | _, _ => .bad
def storeO (n : Nat) (env : List AV) (s : Sto) (x : AV) : AV -> Out
 | .ptr id off => storeO2 n off id env s (sat s id) x.cells
 | .gptr id k off => storeO3 n k off id env s x.cells (sat s id) x.fin
 | _ => .bad
def binO (op : BinOp) (env : List AV) (s : Sto) : AV -> AV -> Out
 | .d (.lit (.int k a)), .d (.lit (.int k' b)) => .need (kOk op k k') <| match op with
  | .add => .ok (.d (.lit (.int k (k.wrap (a + b))))) env s
  | .sub => .ok (.d (.lit (.int k (k.wrap (a - b))))) env s
  | .mul => .ok (.d (.lit (.int k (k.wrap (a * b))))) env s
  | .quo => .need (b ≠ 0) (.ok (.d (.lit (.int k (k.wrap (a.tdiv b))))) env s)
  | .rem => .need (b ≠ 0) (.ok (.d (.lit (.int k (a.tmod b)))) env s)
  | .eql => .ok (.d (bD (a == b))) env s
  | .neq => .ok (.d (bD (a != b))) env s
  | .lss => .ok (.d (bD (decide (a < b)))) env s
  | .leq => .ok (.d (bD (decide (a <= b)))) env s
  | .gtr => .ok (.d (bD (decide (b < a)))) env s
  | .geq => .ok (.d (bD (decide (b <= a)))) env s
  | .and => .ok (.d (.lit (.int k (andI k a b)))) env s
  | .or => .ok (.d (.lit (.int k (orI k a b)))) env s
  | .xor => .ok (.d (.lit (.int k (xorI k a b)))) env s
  | .andNot => .ok (.d (.lit (.int k (andnI k a b)))) env s
  | .shl => .need (0 <= b) (.ok (.d (.lit (.int k (shlI k a b)))) env s)
  | .shr => .need (0 <= b) (.ok (.d (.lit (.int k (shrI k a b)))) env s)
 | .d (.lit (.string a)), .d (.lit (.string b)) => match op with
  | .add => .need (a.size + b.size < 2 ^ 63) (.ok (.d (.lit (.string (a ++ b)))) env s)
  | .eql => .ok (.d (bD (a.toList == b.toList))) env s
  | .neq => .ok (.d (bD (!(a.toList == b.toList)))) env s
  | _ => .bad
 | _, _ => .bad
def binbV (neg : Bool) (a b : Bool) : Bool := match neg with | true => a != b | false => a == b
def binbO (neg : Bool) (env : List AV) (s : Sto) : AV -> AV -> Out
 | .d (.lit (.bool a)), .d (.lit (.bool b)) => .ok (.d (bD (binbV neg a b))) env s
 | _, _ => .bad
def nilV (neg b : Bool) : Bool := match neg with | true => !b | false => b
def eqnilU (neg : Bool) (env : List AV) (s : Sto) : Option (Nat × List D) -> Out
 | some (_, xs) => .amb (xs = []) (.ok (.d (bD (nilV neg true))) env s) (.ok (.d (bD (nilV neg false))) env s)
 | none => .bad
def eqnilO (neg : Bool) (env : List AV) (s : Sto) (x : AV) : Option Bool -> Out
 | some b => .ok (.d (bD (nilV neg b))) env s
 | none => eqnilU neg env s (slK x)
def unO (env : List AV) (s : Sto) : UnOp -> AV -> Out
 | .not, .d (.lit (.bool b)) => .ok (.d (bD (!b))) env s
 | .neg, .d (.lit (.int k n)) => .ok (.d (.lit (.int k (k.wrap (0 - n))))) env s
 | _, _ => .bad
def convO (k : IntKind) (env : List AV) (s : Sto) : AV -> Out
 | .d (.lit (.int _ n)) => .ok (.d (.lit (.int k (k.wrap n)))) env s
 | _ => .bad
def pickO (env : List AV) (s : Sto) (a b : AV) : AV -> Out
 | .d (.lit (.bool t)) => .br t (.ok a env s) (.ok b env s)
 | _ => .bad
def nilcO (env : List AV) (s : Sto) : AV -> Out
 | .ptr id off => .ok (.ptr id off) env s
 | .pv cs => .ok (.pv cs) env s
 | .fn f a b => .ok (.fn f a b) env s
 | .gptr id m off => .ok (.gptr id m off) env s
 | _ => .bad
def fadO (off : Nat) (env : List AV) (s : Sto) : AV -> Out
 | .ptr id o => .ok (.ptr id (o + off)) env s
 | .pv cs => .ok (.pv (cs.drop off)) env s
 | .gptr id k o => .ok (.gptr id k (o + off)) env s
 | _ => .bad
def fldO (off n : Nat) (ag : Bool) (env : List AV) (s : Sto) : Option (List AV) -> Out
 | some cs => .need (off + (match ag with | true => n | false => 1) <= cs.length) (.ok (segAV n off cs ag) env s)
 | none => .bad
def ixaO3 (e : Nat) (n : Int) (env : List AV) (s : Sto) : Option (Nat × List D) -> Out
 | some (e', xs) => .need (e' = e /\ 0 <= n /\ n < xs.length) (.ok (.pv (dcells (xs.getD n.toNat .any))) env s)
 | none => .bad
def ixaO2 (e : Nat) (n : Int) (env : List AV) (s : Sto) : AV -> Out
 | .msl e' id off len => .need (e' = e /\ 0 <= n /\ n < len) (.ok (.ptr id (off + n.toNat * e)) env s)
 | .gow e' id m => .need (e' = e /\ 0 <= n /\ n < m) (.ok (.gptr id m (n.toNat * e)) env s)
 | x => ixaO3 e n env s (slK x)
def ixaO (e : Nat) (env : List AV) (s : Sto) (x : AV) : Option Int -> Out
 | some n => ixaO2 e n env s x
 | none => .bad
def ixaAO (e n : Nat) (env : List AV) (s : Sto) : Option Int -> AV -> Out
 | some j, .ptr id off => .need (0 <= j /\ j < n) (.ok (.ptr id (off + j.toNat * e)) env s)
 | some j, .pv cs => .need (0 <= j /\ j < n) (.ok (.pv (cs.drop (j.toNat * e))) env s)
 | _, _ => .bad
def lenO2 (env : List AV) (s : Sto) : Option (Nat × List D) -> Out
 | some (_, xs) => .ok (.d (iD xs.length)) env s
 | none => .bad
def lenO (env : List AV) (s : Sto) : AV -> Out
 | .msl _ _ _ n => .ok (.d (iD n)) env s
 | .gow _ _ n => .ok (.d (iD n)) env s
 | x => lenO2 env s (slK x)
def lensO (env : List AV) (s : Sto) : AV -> Out
 | .d (.lit (.string b)) => .ok (.d (iD b.size)) env s
 | _ => .bad
def ixsO (env : List AV) (s : Sto) : AV -> AV -> Out
 | .d (.lit (.string b)), .d (.lit (.int _ n)) => .need (0 <= n /\ n < b.size) (.ok (.d (.lit (.int .u8 (sget b n.toNat)))) env s)
 | _, _ => .bad
def slsO2 (b : ByteArray) (env : List AV) (s : Sto) : Option Int -> Option Int -> Out
 | some l, some h => .need (0 <= l /\ l <= h /\ h <= b.size) (.ok (.d (.lit (.string (b.extract l.toNat h.toNat)))) env s)
 | _, _ => .bad
def slsO (env : List AV) (s : Sto) (lo hi : Option Operand) : AV -> Out
 | .d (.lit (.string b)) => slsO2 b env s (bnd env 0 lo) (bnd env b.size hi)
 | _ => .bad
def slcO2 (x : AV) (e : Nat) (env : List AV) (s : Sto) (lo : Option Int) (hi : Option Operand) : Option (Nat × List D) -> Out
 | some (e', xs) => match lo, bnd env xs.length hi with
  | some l, some h => .need ((xs = [] ∨ e' = e) /\ 0 <= l /\ l <= h /\ h <= xs.length) (.ok (.d (.sl e' (nlK x) ((xs.take h.toNat).drop l.toNat))) env s)
  | _, _ => .bad
 | none => .bad
def slcF (e : Nat) (env : List AV) (s : Sto) : Option Operand -> Option Int -> Option Int -> Option (Nat × List D) -> Out
 | none, some h, some m, some (e', xs) => .need ((xs = [] ∨ e' = e) /\ h = m /\ 0 <= h /\ h <= xs.length) (.ok (.ful e' (xs.take h.toNat)) env s)
 | _, _, _, _ => .bad
def hiO (env : List AV) : Option Operand -> Option Int
 | some h => aInt (ev env h)
 | none => none
def slcO (x : AV) (e : Nat) (env : List AV) (s : Sto) (lo hi : Option Operand) : Option Operand -> Out
 | none => slcO2 x e env s (bnd env 0 lo) hi (slK x)
 | some m => slcF e env s lo (hiO env hi) (aInt (ev env m)) (slK x)
def slcAO (e n : Nat) (env : List AV) (s : Sto) : AV -> Option Operand -> Option Operand -> Option Operand -> Out
 | .ptr id off, none, none, none => .ok (.msl e id off n) env s
 | .ptr id off, none, some h, none => match aInt (ev env h) with
  | some h => .need (0 <= h /\ h <= n) (.ok (.msl e id off h.toNat) env s)
  | none => .bad
 | _, _, _, _ => .bad
def appO3 (t e bytes : Nat) (j : Nat) (xs ys : List D) (env : List AV) (s : Sto) (ob : Ob) : Out :=
 .need (ob = .tok t e xs.length /\ (xs.length + ys.length) * bytes <= 2 ^ 47) (.ok (.own e j (xs ++ ys)) env (sset s j (.tok t e (xs.length + ys.length))))
def appO4 (t e bytes : Nat) (j n : Nat) (ys : List D) (env : List AV) (s : Sto) : Ob -> Out
 | .gro t' e2 m cs => .need (t' = t /\ e2 = e /\ m = n /\ (n + ys.length) * bytes <= 2 ^ 47) (.ok (.gow e j (n + ys.length)) env (sset s j (.gro t e (n + ys.length) (cs ++ ys.flatMap dcells))))
 | _ => .bad
def appO2 (id t e bytes k0 : Nat) (e2 : Nat) (ys : List D) (env : List AV) (s : Sto) : AV -> Out
 | .own e' j xs => .need ((ys = [] ∨ e2 = e) /\ e' = e) (appO3 t e bytes j xs ys env s (sat s j))
 | .gow e' j n => .need ((ys = [] ∨ e2 = e) /\ e' = e) (appO4 t e bytes j n ys env s (sat s j))
 | .d (.sl _ (some true) []) => .need ((ys = [] ∨ e2 = e) /\ ys.length * bytes <= 2 ^ 47 /\ k0 <= id) (newTokO id t e ys env s (sat s id))
 | .ful e' xs => .need ((ys = [] ∨ e2 = e) /\ e' = e /\ (xs.length + ys.length) * bytes <= 2 ^ 47) (.ok (.d (.sl e none (xs ++ ys))) env s)
 | _ => .bad
def appO (id t e bytes k0 : Nat) (x : AV) (env : List AV) (s : Sto) : Option (Nat × List D) -> Out
 | some (e2, ys) => appO2 id t e bytes k0 e2 ys env s x
 | none => .bad
def appgO2 (id t e bytes k0 : Nat) (e2 : Nat) (ys : List D) (env : List AV) (s : Sto) : AV -> Out
 | .d (.sl _ (some true) []) => .need ((ys = [] ∨ e2 = e) /\ ys.length * bytes <= 2 ^ 47 /\ k0 <= id) (newGroO id t e ys env s (sat s id))
 | x => appO2 id t e bytes k0 e2 ys env s x
def appgO (id t e bytes k0 : Nat) (x : AV) (env : List AV) (s : Sto) : Option (Nat × List D) -> Out
 | some (e2, ys) => appgO2 id t e bytes k0 e2 ys env s x
 | none => .bad
def extO (i : Nat) (env : List AV) (s : Sto) : AV -> Out
 | .tup cs => .need (i < cs.length) (.ok (cs.getD i .junk) env s)
 | _ => .bad
def minmaxO (mx : Bool) (env : List AV) (s : Sto) : AV -> AV -> Out
 | .d (.lit (.int k a)), .d (.lit (.int k' b)) => .need (k = k') (.ok (.d (.lit (.int k (match mx with | true => if b > a then b else a | false => if b < a then b else a)))) env s)
 | _, _ => .bad
def boxO (id t k0 : Nat) (env : List AV) (s : Sto) : Option (List AV) -> Out
 | some cs => .need (k0 <= id) (newObjO id t cs env s (sat s id))
 | none => .bad
def buildO (env : List AV) (s : Sto) : Option (List AV) -> Out
 | some cs => .ok (AV.mk cs) env s
 | none => .bad
def bslO (id t e k0 : Nat) (env : List AV) (s : Sto) : Option (List D) -> Out
 | some ds => .need ((∀ d ∈ ds, (dcells d).length = e) /\ k0 <= id) (newTokO id t e ds env s (sat s id))
 | none => .bad
def newLitO (id t e n : Nat) (cs env : List AV) (s : Sto) : Ob -> Out
 | .dead => .ok (.msl e id 0 n) env (sset s id (.obj t cs))
 | _ => .bad
def bsloO (id t e n k0 : Nat) (env : List AV) (s : Sto) : Option (List AV) -> Out
 | some cs => .need (k0 <= id) (newLitO id t e n cs env s (sat s id))
 | none => .bad
def newNstO (id t e : Nat) (ds : List D) (cs env : List AV) (s : Sto) : Ob -> Out
 | .dead => .ok (.own e id ds) env (sset s id (.nst t e ds.length cs))
 | .obj _ _ => .ok (.own e id ds) (AV.rens (killρ id) env) (sset (skill id s) id (.nst t e ds.length (AV.rens (killρ id) cs)))
 | .tok _ _ _ => .ok (.own e id ds) (AV.rens (killρ id) env) (sset (skill id s) id (.nst t e ds.length (AV.rens (killρ id) cs)))
 | .gro _ _ _ _ => .ok (.own e id ds) (AV.rens (killρ id) env) (sset (skill id s) id (.nst t e ds.length (AV.rens (killρ id) cs)))
 | .nst _ _ _ _ => .ok (.own e id ds) (AV.rens (killρ id) env) (sset (skill id s) id (.nst t e ds.length (AV.rens (killρ id) cs)))
 | .prv _ _ _ => .ok (.own e id ds) (AV.rens (killρ id) env) (sset (skill id s) id (.nst t e ds.length (AV.rens (killρ id) cs)))
 | .mp _ _ _ => .ok (.own e id ds) (AV.rens (killρ id) env) (sset (skill id s) id (.nst t e ds.length (AV.rens (killρ id) cs)))
def bslnO (id t e k0 : Nat) (env : List AV) (s : Sto) : Option (List D) -> Option (List AV) -> Out
 | some ds, some cs => .need ((∀ d ∈ ds, (dcells d).length = e) /\ noDp cs = true /\ k0 <= id) (newNstO id t e ds cs env s (sat s id))
 | _, _ => .bad
def appnO3 (t e j j2 : Nat) (xs ys : List D) (env : List AV) (s : Sto) : Ob -> Ob -> Out
 | .nst t1 e3 n cs, .nst t2 e4 m cs2 => .need (t1 = t /\ e3 = e /\ n = xs.length /\ e4 = e /\ m = ys.length)
  (.ok (.own e j (xs ++ ys)) env (sset (sset s j (.nst t e (xs.length + ys.length) (cs ++ cs2))) j2 (.nst t2 e ys.length (List.replicate cs2.length .junk))))
 | _, _ => .bad
def appnO (t e bytes : Nat) (env : List AV) (s : Sto) : AV -> AV -> Out
 | .own e' j xs, .own e2 j2 ys => .need (e' = e /\ e2 = e /\ j ≠ j2 /\ ys ≠ [] /\ (xs.length + ys.length) * bytes <= 2 ^ 47) (appnO3 t e j j2 xs ys env s (sat s j) (sat s j2))
 | _, _ => .bad
def bslgO (id t e k0 : Nat) (env : List AV) (s : Sto) : Option (List D) -> Out
 | some ds => .need ((∀ d ∈ ds, (dcells d).length = e) /\ k0 <= id) (newGroO id t e ds env s (sat s id))
 | none => .bad
def mkslO (id t e bytes k0 : Nat) (z : List D) (env : List AV) (s : Sto) : Bool -> Option Int -> Option Int -> Out
 | true, some l, some c => .need (0 <= l /\ l <= c /\ bytes * c <= 2 ^ 48 /\ c < 2 ^ 62 /\ k0 <= id) (newTokO id t e [] env s (sat s id))
 | false, some l, some c => .need (0 <= l /\ l <= c /\ bytes * c <= 2 ^ 48 /\ c < 2 ^ 62 /\ k0 <= id) (newMslO id t e l.toNat ((List.replicate l.toNat (z.map .d)).flatten) env s (sat s id))
 | _, _, _ => .bad
def mkslpO (id e bytes k0 : Nat) (z : List D) (env : List AV) (s : Sto) : Bool -> Option Int -> Option Int -> Out
 | false, some l, some c => .need (0 < e /\ 0 <= l /\ l <= c /\ bytes * c <= 2 ^ 48 /\ c < 2 ^ 62 /\ k0 <= id /\ (sat s id).isDead = true) (.ok (.gow e id l.toNat) env (sset s id (.prv e l.toNat ((List.replicate l.toNat (z.map .d)).flatten))))
 | _, _, _ => .bad
def mksldO (e bytes : Nat) (env : List AV) (s : Sto) : List D -> Bool -> Option Int -> Option Int -> Out
 | [zd], false, some l, some c => .need (e = 1 /\ 0 <= l /\ l <= c /\ bytes * c <= 2 ^ 48 /\ c < 2 ^ 62) (.ok (.d (.sl 1 none (List.replicate l.toNat zd))) env s)
 | _, _, _, _ => .bad
def callvO (P : Program) (args env : List AV) (s : Sto) : AV -> Out
 | .fn f first cap => .need (enters P f = true) (.call f (first ++ args ++ cap) env s)
 | _ => .bad
def newMapO (P : Program) (id k : Nat) (env : List AV) (s : Sto) : Bool -> Out
 | true => .ok (.mp id) env (sset s id (.mp P k []))
 | false => .ok (.mp id) (AV.rens (killρ id) env) (sset (skill id s) id (.mp P k []))
def lookO2 (P : Program) (k : Nat) (kd : Option IntKind) (z : D) (ok : Bool) (env : List AV) (s : Sto) (kv : Value) : Ob -> Out
 | .mp P' k' es => .need (P' = P /\ k' = k /\ keyOkL kd kv) (.ok (lookAV ok z (mget es (litOf kv))) env s)
 | _ => .bad
def lookO (P : Program) (k : Nat) (kd : Option IntKind) (z : D) (ok : Bool) (env : List AV) (s : Sto) : AV -> AV -> Out
 | .mp id, .d (.lit kv) => lookO2 P k kd z ok env s kv (sat s id)
 | _, _ => .bad
def mputO2 (P : Program) (k : Nat) (kd : Option IntKind) (env : List AV) (s : Sto) (id : Nat) (kv : Value) (d : D) : Ob -> Out
 | .mp P' k' es => .need (P' = P /\ k' = k /\ keyOkL kd kv /\ es.length < 2 ^ 40 /\ isAggD d = false) (.ok .junk env (sset s id (.mp P k ((litOf kv, d) :: es))))
 | _ => .bad
def mputO (P : Program) (k : Nat) (kd : Option IntKind) (env : List AV) (s : Sto) : AV -> AV -> Option D -> Out
 | .mp id, .d (.lit kv), some d => mputO2 P k kd env s id kv d (sat s id)
 | _, _, _ => .bad
def mdelO2 (P : Program) (k : Nat) (kd : Option IntKind) (env : List AV) (s : Sto) (id : Nat) (kv : Value) : Ob -> Out
 | .mp P' k' es => .need (P' = P /\ k' = k /\ keyOkL kd kv) (.ok (.tup []) env (sset s id (.mp P k (mdel (litOf kv) es))))
 | _ => .bad
def mdelO (P : Program) (k : Nat) (kd : Option IntKind) (env : List AV) (s : Sto) : AV -> AV -> Out
 | .mp id, .d (.lit kv) => mdelO2 P k kd env s id kv (sat s id)
 | _, _ => .bad
def vout (P : Program) (k0 : Nat) (env : List AV) (s : Sto) : MOp -> Out
 | .mv x => .ok (ev env x) env s
 | .pick c a b => pickO env s (ev env a) (ev env b) (ev env c)
 | .alloc id t z => .need (k0 <= id) (newObjO id t (z.map .d) env s (sat s id))
 | .box id t x => boxO id t k0 env s (ev env x).cells
 | .boxi id _ t x => boxO id t k0 env s (ev env x).cells
 | .build z ps => buildO env s (putParts env (z.map .d) ps)
 | .bsl id t e xs => bslO id t e k0 env s (AV.finAll (xs.map (ev env)))
 | .bslg id t e xs => bslgO id t e k0 env s (AV.finAll (xs.map (ev env)))
 | .bsln id t e xs => bslnO id t e k0 env s (AV.finAll (xs.map (ev env))) (AV.flat e (xs.map (ev env)))
 | .appn _ t e bytes x y => appnO t e bytes env s (ev env x) (ev env y)
 | .bslo id t e xs => bsloO id t e xs.length k0 env s (AV.flat e (xs.map (ev env)))
 | .load n ag p => loadO n ag env s (ev env p)
 | .store n p x => storeO n env s (ev env x) (ev env p)
 | .nilc x => nilcO env s (ev env x)
 | .bin op x y => binO op env s (ev env x) (ev env y)
 | .binb neg x y => binbO neg env s (ev env x) (ev env y)
 | .eqnil neg x => eqnilO neg env s (ev env x) (nlK (ev env x))
 | .un op x => unO env s op (ev env x)
 | .conv k x => convO k env s (ev env x)
 | .mkfn f first cap => .ok (.fn f (first.map (ev env)) (cap.map (ev env))) env s
 | .mksld _ _ e bytes z tok len cap => mksldO e bytes env s z tok (aInt (ev env len)) (aInt (ev env cap))
 | .mkslp id _ e bytes z tok len cap => mkslpO id e bytes k0 z env s tok (aInt (ev env len)) (aInt (ev env cap))
 | .mksl id t e bytes z tok len cap => mkslO id t e bytes k0 z env s tok (aInt (ev env len)) (aInt (ev env cap))
 | .slc x e lo hi mx => slcO (ev env x) e env s lo hi mx
 | .slcA p e n lo hi mx => slcAO e n env s (ev env p) lo hi mx
 | .fad off p => fadO off env s (ev env p)
 | .fld off n ag x => fldO off n ag env s (ev env x).acells
 | .ixa e x i => ixaO e env s (ev env x) (aInt (ev env i))
 | .ixaA e n p i => ixaAO e n env s (aInt (ev env i)) (ev env p)
 | .len x => lenO env s (ev env x)
 | .lens x => lensO env s (ev env x)
 | .ixs x i => ixsO env s (ev env x) (ev env i)
 | .sls x lo hi => slsO env s lo hi (ev env x)
 | .app id t e bytes x y => appO id t e bytes k0 (ev env x) env s (slK (ev env y))
 | .appg id t e bytes x y => appgO id t e bytes k0 (ev env x) env s (slK (ev env y))
 | .callf f args => .call f (args.map (ev env)) env s
 | .callv g args => callvO P (args.map (ev env)) env s (ev env g)
 | .ext x i => extO i env s (ev env x)
 | .max x y => minmaxO true env s (ev env x) (ev env y)
 | .min x y => minmaxO false env s (ev env x) (ev env y)
 | .mkmap id k => .need (k0 <= id) (newMapO P id k env s (sat s id).isDead)
 | .look k kd z ok m x => lookO P k kd z ok env s (ev env m) (ev env x)
 | .mput k kd m x v => mputO P k kd env s (ev env m) (ev env x) (ev env v).fin
 | .mdel k kd m x => mdelO P k kd env s (ev env m) (ev env x)
 | .dead => .bad
theorem rens_d (ρ : Nat -> Option Nat) : ∀ z : List D, AV.rens ρ (z.map .d) = z.map .d
 | [] => rfl
 | x :: xs => by simp only [List.map_cons, AV.rens, AV.ren, rens_d ρ xs]
theorem rens_map (ρ : Nat -> Option Nat) : ∀ z : List AV, AV.rens ρ z = z.map (AV.ren ρ)
 | [] => rfl
 | x :: xs => by simp only [List.map_cons, AV.rens, rens_map ρ xs]
theorem app_vout {P : Program} {k0 id t e bytes : Nat} {x y : AV} {env : List AV} {s : Sto} {K : AV -> List AV -> Sto -> Prop} (h : runK P k0 K (appO id t e bytes k0 x env s (slK y))) :
 appK id t e bytes k0 x y env s K := by
 unfold appK
 cases hs : slK y with
 | none => rw [hs] at h; exact h.elim
 | some p =>
  obtain ⟨e2, ys⟩ := p
  rw [hs] at h
  simp only [appO, appO2] at h ⊢
  split at h
  ·simp only [runK, appO3] at h
   exact ⟨h.1.1, h.1.2, h.2.1.1, h.2.1.2, h.2.2⟩
  ·rename_i e' j n
   simp only [runK] at h
   refine ⟨h.1.1, h.1.2, ?_⟩
   have h := h.2
   cases hq : sat s j <;> simp only [hq, appO4, runK] at h ⊢
   exact ⟨h.1.1, h.1.2.1, h.1.2.2.1, h.1.2.2.2, h.2⟩
  ·simp only [runK] at h
   refine ⟨h.1.1, h.1.2.1, h.1.2.2, ?_⟩
   have h := h.2
   cases hq : sat s id <;> simp only [hq, newTokO, runK, Ob.isDead, if_true, Bool.false_eq_true, if_false] at h ⊢ <;> exact h
  ·simp only [runK] at h
   exact ⟨h.1.1, h.1.2.1, h.1.2.2, h.2⟩
  ·exact h.elim
theorem appg_vout {P : Program} {k0 id t e bytes : Nat} {x y : AV} {env : List AV} {s : Sto} {K : AV -> List AV -> Sto -> Prop} (h : runK P k0 K (appgO id t e bytes k0 x env s (slK y))) :
 appgK id t e bytes k0 x y env s K := by
 unfold appgK
 split
 ·rename_i e2 ys e4 hs
  rw [hs] at h
  simp only [appgO, appgO2, runK] at h
  refine ⟨h.1.1, h.1.2.1, ?_⟩
  unfold newK
  refine ⟨h.1.2.2, ?_⟩
  have h := h.2
  cases hq : sat s id <;> simp only [hq, newGroO, runK, Ob.isDead, if_true, Bool.false_eq_true, if_false] at h ⊢ <;> exact h
 ·rename_i hn
  refine app_vout (P := P) ?_
  cases hs : slK y with
  | none => rw [hs] at h; exact h
  | some p =>
   obtain ⟨e2, ys⟩ := p
   rw [hs] at h
   simp only [appgO] at h
   unfold appgO2 at h
   split at h
   ·rename_i e4; exact absurd rfl (hn e2 ys e4 hs)
   ·exact h
theorem vout_vop {P : Program} {k0 : Nat} {m : MOp} {env : List AV} {s : Sto} {K : AV -> List AV -> Sto -> Prop} (h : runK P k0 K (vout P k0 env s m)) : vop P k0 m env s K := by
 cases m with
 | mv x => exact h
 | pick c a b =>
  simp only [vout, pickO, vop] at h ⊢
  split at h
  ·rename_i t ht; try rw [ht]
   simpa [Br, runK] using h
  ·exact h.elim
 | alloc id t z =>
  simp only [vout, runK, vop, newK] at h ⊢
  refine ⟨h.1, ?_⟩
  cases hs : sat s id <;> simp only [hs, newObjO, runK, Ob.isDead, if_true, Bool.false_eq_true, if_false, rens_d] at h ⊢ <;> exact h.2
 | boxi id d t x =>
  simp only [vout, vop] at h ⊢
  cases hc : (ev env x).cells with
  | none => rw [hc] at h; exact h.elim
  | some cs =>
   rw [hc] at h
   simp only [boxO, runK, newK] at h ⊢
   refine ⟨h.1, ?_⟩
   cases hs : sat s id <;> simp only [hs, newObjO, runK, Ob.isDead, if_true, Bool.false_eq_true, if_false, rens_map] at h ⊢
   ·simpa using h.2
   all_goals exact h.2
 | box id t x =>
  simp only [vout, vop] at h ⊢
  cases hc : (ev env x).cells with
  | none => rw [hc] at h; exact h.elim
  | some cs =>
   rw [hc] at h
   simp only [boxO, runK, newK] at h ⊢
   refine ⟨h.1, ?_⟩
   cases hs : sat s id <;> simp only [hs, newObjO, runK, Ob.isDead, if_true, Bool.false_eq_true, if_false, rens_map] at h ⊢
   ·simpa using h.2
   all_goals exact h.2
 | build z ps =>
  simp only [vout, vop] at h ⊢
  cases hc : putParts env (z.map .d) ps with
  | none => rw [hc] at h; exact h.elim
  | some cs => rw [hc] at h; exact h
 | bsl id t e xs =>
  simp only [vout, vop] at h ⊢
  cases hc : AV.finAll (xs.map (ev env)) with
  | none => rw [hc] at h; exact h.elim
  | some ds =>
   rw [hc] at h
   simp only [bslO, runK, newK] at h ⊢
   refine ⟨h.1.1, h.1.2, ?_⟩
   cases hs : sat s id <;> simp only [hs, newTokO, runK, Ob.isDead, if_true, Bool.false_eq_true, if_false] at h ⊢ <;> exact h.2
 | bslo id t e xs =>
  simp only [vout, vop] at h ⊢
  cases hc : AV.flat e (xs.map (ev env)) with
  | none => rw [hc] at h; exact h.elim
  | some cs =>
   rw [hc] at h
   simp only [bsloO, runK, newK] at h ⊢
   refine ⟨h.1, ?_⟩
   cases hs : sat s id <;> simp only [hs, newLitO, runK, Ob.isDead, if_true, Bool.false_eq_true, if_false] at h ⊢
   ·simpa using h.2
   all_goals exact h.2.elim
 | bslg id t e xs =>
  simp only [vout, vop] at h ⊢
  cases hc : AV.finAll (xs.map (ev env)) with
  | none => rw [hc] at h; exact h.elim
  | some ds =>
   rw [hc] at h
   simp only [bslgO, runK, newK] at h ⊢
   refine ⟨h.1.1, h.1.2, ?_⟩
   cases hs : sat s id <;> simp only [hs, newGroO, runK, Ob.isDead, if_true, Bool.false_eq_true, if_false] at h ⊢ <;> exact h.2
 | load n ag p =>
  simp only [vout, vop, loadK] at h ⊢
  cases hp : ev env p with
  | ptr id off =>
   rw [hp] at h
   simp only [loadO] at h ⊢
   cases hs : sat s id <;> rw [hs] at h <;> simp only [loadO2, runK] at h ⊢
   cases ag <;> exact h
  | pv cs => rw [hp] at h; simp only [loadO, runK] at h ⊢; cases ag <;> exact h
  | gptr id kk off =>
   rw [hp] at h
   simp only [loadO] at h ⊢
   cases hs : sat s id <;> rw [hs] at h <;> simp only [loadO3, runK] at h ⊢
   ·cases ag <;> exact ⟨h.1.1, h.1.2, h.2⟩
   ·exact ⟨h.1.1, h.1.2.1, h.1.2.2.1, h.1.2.2.2.1, h.1.2.2.2.2, h.2⟩
  | _ => rw [hp] at h; exact h.elim
 | store n p x =>
  simp only [vout, vop, storeK] at h ⊢
  cases hp : ev env p with
  | ptr id off =>
   rw [hp] at h
   simp only [storeO] at h ⊢
   cases hs : sat s id <;> rw [hs] at h <;> cases hc : (ev env x).cells <;> rw [hc] at h <;> simp only [storeO2, runK] at h ⊢
   exact ⟨h.1.1, h.1.2, h.2⟩
  | gptr id kk off =>
   rw [hp] at h
   simp only [storeO] at h ⊢
   cases hs : sat s id <;> rw [hs] at h <;> simp only at h ⊢
   case gro => cases hc : (ev env x).fin <;> rw [hc] at h <;> simp only [storeO3, runK] at h ⊢ <;> exact ⟨h.1.1, h.1.2.1, h.1.2.2, h.2⟩
   case prv e1 m1 cs1 =>
    have h : runK P k0 K (storeO4 n kk off id e1 m1 cs1 env s (ev env x).cells) := by cases hc : (ev env x).fin <;> rw [hc] at h <;> exact h
    cases hc : (ev env x).cells <;> rw [hc] at h <;> simp only [storeO4, runK] at h ⊢
    exact ⟨h.1.1, h.1.2.1, h.1.2.2.1, h.1.2.2.2.1, h.1.2.2.2.2, h.2⟩
   all_goals (cases hc : (ev env x).fin <;> rw [hc] at h <;> simp only [storeO3, runK] at h)
  | _ => rw [hp] at h; exact h.elim
 | nilc x =>
  simp only [vout, vop] at h ⊢
  cases hp : ev env x <;> rw [hp] at h <;> first | exact h | exact h.elim
 | bin op x y =>
  simp only [vout, vop, binK, binO] at h ⊢
  split at h
  ·rename_i k a k' b h1 h2
   try rw [h1, h2]
   simp only [runK] at h
   refine ⟨h.1, ?_⟩
   have h := h.2
   cases op <;> exact h
  ·rename_i a b h1 h2
   try rw [h1, h2]
   cases op <;> first | exact h | exact h.elim
  ·exact h.elim
 | binb neg x y =>
  simp only [vout, vop, binbO] at h ⊢
  split at h
  ·rename_i a b h1 h2
   try rw [h1, h2]
   cases neg <;> exact h
  ·exact h.elim
 | eqnil neg x =>
  simp only [vout, vop] at h ⊢
  cases hc : nlK (ev env x) with
  | none =>
   rw [hc] at h
   simp only [eqnilO] at h
   cases hs : slK (ev env x) with
   | none => rw [hs] at h; exact h.elim
   | some p => rw [hs] at h; cases neg <;> exact h
  | some b => rw [hc] at h; cases neg <;> exact h
 | un op x =>
  simp only [vout, vop, unO] at h ⊢
  split at h
  ·rename_i b h1; (try rw [h1]); exact h
  ·rename_i k n h1; (try rw [h1]); exact h
  ·exact h.elim
 | conv k x =>
  simp only [vout, vop, convO] at h ⊢
  split at h
  ·rename_i k' n h1; (try rw [h1]); exact h
  ·exact h.elim
 | mkfn f first cap => exact h
 | mkslp id t e bytes z tok len cap =>
  simp only [vout, vop] at h ⊢
  generalize aInt (ev env len) = X at h ⊢
  generalize aInt (ev env cap) = Y at h ⊢
  cases tok <;> cases X <;> cases Y <;> simp only [mkslpO, runK] at h ⊢ <;> first
   | exact ⟨trivial, h.1.1, h.1.2.1, h.1.2.2.1, h.1.2.2.2.1, h.1.2.2.2.2.1, h.1.2.2.2.2.2.1, h.1.2.2.2.2.2.2, h.2⟩
   | exact h
 | mksld id t e bytes z tok len cap =>
  simp only [vout, vop] at h ⊢
  cases h1 : aInt (ev env len) with
  | none =>
   rw [h1] at h
   rcases z with _ | ⟨zd, _ | ⟨_, _⟩⟩ <;> cases tok <;> exact h.elim
  | some lv =>
   cases h2 : aInt (ev env cap) with
   | none =>
    rw [h1, h2] at h
    rcases z with _ | ⟨zd, _ | ⟨_, _⟩⟩ <;> cases tok <;> exact h.elim
   | some cv =>
    rw [h1, h2] at h
    rcases z with _ | ⟨zd, _ | ⟨_, _⟩⟩ <;> cases tok <;> first
     | exact h.elim
     | exact ⟨h.1.1, rfl, h.1.2.1, h.1.2.2.1, h.1.2.2.2.1, h.1.2.2.2.2, h.2⟩
 | mksl id t e bytes z tok len cap =>
  simp only [vout, vop] at h ⊢
  cases h1 : aInt (ev env len) <;> cases h2 : aInt (ev env cap) <;> cases tok <;> rw [h1, h2] at h <;> simp only [mkslO, runK] at h ⊢
  ·obtain ⟨⟨a1, a2, a3, a4, a5⟩, h⟩ := h
   refine ⟨a1, a2, a3, a4, a5, ?_⟩
   cases hs : sat s id <;> simp only [hs, newMslO, runK, Ob.isDead, if_true, Bool.false_eq_true, if_false] at h ⊢ <;> exact h
  ·obtain ⟨⟨a1, a2, a3, a4, a5⟩, h⟩ := h
   refine ⟨a1, a2, a3, a4, a5, ?_⟩
   cases hs : sat s id <;> simp only [hs, newTokO, runK, Ob.isDead, if_true, Bool.false_eq_true, if_false] at h ⊢ <;> exact h
 | slc x e lo hi mx =>
  simp only [vout, vop] at h ⊢
  cases mx with
  | some m =>
   simp only [slcO] at h
   cases lo with
   | some _ => cases hi <;> exact h.elim
   | none =>
    cases hi with
    | none => exact h.elim
    | some hh =>
     simp only [hiO] at h
     cases h1 : aInt (ev env hh) with
     | none => rw [h1] at h; exact h.elim
     | some hv =>
      cases h2 : aInt (ev env m) with
      | none => rw [h1, h2] at h; exact h.elim
      | some mv =>
       cases hs : slK (ev env x) with
       | none => rw [h1, h2, hs] at h; exact h.elim
       | some p =>
        obtain ⟨e', xs⟩ := p
        rw [h1, h2, hs] at h
        simp only [slcF, runK] at h
        obtain ⟨⟨k1, rfl, k2, k3⟩, k4⟩ := h
        exact ⟨rfl, hh, hv, rfl, h1, h2, k1, k2, k3, k4⟩
  | none =>
   simp only [slcO] at h
   cases hs : slK (ev env x) with
   | none => rw [hs] at h; exact h.elim
   | some p =>
    obtain ⟨e', xs⟩ := p
    rw [hs] at h
    simp only [slcO2] at h ⊢
    split at h
    ·rename_i l hh h1 h2
     simp only [runK] at h
     refine ⟨h.1.1, ?_⟩
     unfold slcK
     rw [hs, h1, h2]
     exact ⟨h.1.2.1, h.1.2.2.1, h.1.2.2.2, h.2⟩
    ·exact h.elim
 | slcA p e n lo hi mx =>
  simp only [vout, vop, slcAO] at h ⊢
  split at h
  ·rename_i id off h1; (try rw [h1]); exact h
  ·rename_i id off hh h1
   try rw [h1]
   split at h
   ·rename_i h' h2; (try simp only [h2]); exact ⟨h.1.1, h.1.2, h.2⟩
   ·exact h.elim
  ·exact h.elim
 | fad off p =>
  simp only [vout, vop] at h ⊢
  cases hp : ev env p <;> rw [hp] at h <;> first | exact h | exact h.elim
 | fld off n ag x =>
  simp only [vout, vop] at h ⊢
  cases hc : (ev env x).acells with
  | none => rw [hc] at h; exact h.elim
  | some cs => rw [hc] at h; cases ag <;> exact h
 | ixa e x i =>
  simp only [vout, vop, ixaK] at h ⊢
  cases hi : aInt (ev env i) with
  | none => rw [hi] at h; exact h.elim
  | some n =>
   rw [hi] at h
   simp only [ixaO] at h ⊢
   cases hx : ev env x <;> rw [hx] at h <;> simp only [ixaO2] at h ⊢ <;> first
    | exact ⟨h.1.1, h.1.2.1, h.1.2.2, h.2⟩
    | (
     split
     ·rename_i e' xs hs; rw [hs] at h; exact ⟨h.1.1, h.1.2.1, h.1.2.2, h.2⟩
     ·rename_i hs; rw [hs] at h; exact h.elim)
 | ixaA e n p i =>
  simp only [vout, vop] at h ⊢
  cases hi : aInt (ev env i) <;> cases hp : ev env p <;> rw [hi, hp] at h <;> first | exact ⟨h.1.1, h.1.2, h.2⟩ | exact h.elim
 | len x =>
  simp only [vout, vop] at h ⊢
  cases hx : ev env x <;> rw [hx] at h <;> simp only [lenO] at h ⊢ <;> first
   | exact h
   | (
    split
    ·rename_i e' xs hs; rw [hs] at h; exact h
    ·rename_i hs; rw [hs] at h; exact h.elim)
 | lens x =>
  simp only [vout, vop, lensO] at h ⊢
  split at h
  ·rename_i b h1; (try rw [h1]); exact h
  ·exact h.elim
 | ixs x i =>
  simp only [vout, vop, ixsO] at h ⊢
  split at h
  ·rename_i b kk n h1 h2
   try rw [h1, h2]
   exact ⟨h.1.1, h.1.2, h.2⟩
  ·exact h.elim
 | sls x lo hi =>
  simp only [vout, vop, slsO] at h ⊢
  split at h
  ·rename_i b h1
   try rw [h1]
   simp only at h ⊢
   generalize bnd env 0 lo = X at h ⊢
   generalize bnd env b.size hi = Y at h ⊢
   cases X <;> cases Y <;> first | exact ⟨h.1.1, h.1.2.1, h.1.2.2, h.2⟩ | exact h.elim
  ·exact h.elim
 | app id t e bytes x y => exact app_vout h
 | appn id t e bytes x y =>
  simp only [vout, vop, appnK] at h ⊢
  generalize ev env x = X at h ⊢
  generalize ev env y = Y at h ⊢
  unfold appnO at h
  split at h
  ·rename_i e' j xs e2 j2 ys
   simp only [runK] at h
   refine ⟨h.1.1, h.1.2.1, h.1.2.2.1, h.1.2.2.2.1, h.1.2.2.2.2, ?_⟩
   replace h := h.2
   cases hq : sat s j <;> cases hq2 : sat s j2 <;> rw [hq, hq2] at h <;> simp only [appnO3, runK] at h ⊢ <;> first | exact ⟨h.1.1, h.1.2.1, h.1.2.2.1, h.1.2.2.2.1, h.1.2.2.2.2, h.2⟩ | exact h
  ·exact h.elim
 | bsln id t e xs =>
  simp only [vout, vop, bslnK] at h ⊢
  generalize AV.finAll (xs.map (ev env)) = X at h ⊢
  generalize AV.flat e (xs.map (ev env)) = Y at h ⊢
  unfold bslnO at h
  split at h
  ·simp only [runK] at h
   refine ⟨h.1.1, h.1.2.1, h.1.2.2, ?_⟩
   have h := h.2
   cases hs : sat s id <;> simp only [hs, newNstO, runK, Ob.isDead, if_true, Bool.false_eq_true, if_false, rens_map] at h ⊢ <;> first | exact h | simpa using h
  ·exact h.elim
 | appg id t e bytes x y => exact appg_vout h
 | callf f args => exact h
 | callv g args =>
  simp only [vout, vop, callvO] at h ⊢
  split at h
  ·rename_i f first cap h1; (try rw [h1]); exact h
  ·exact h.elim
 | ext x i =>
  simp only [vout, vop, extO] at h ⊢
  split at h
  ·rename_i cs h1; (try rw [h1]); exact h
  ·exact h.elim
 | max x y =>
  simp only [vout, vop, minmaxO] at h ⊢
  split at h
  ·rename_i k a k' b h1 h2; (try rw [h1, h2]); exact h
  ·exact h.elim
 | min x y =>
  simp only [vout, vop, minmaxO] at h ⊢
  split at h
  ·rename_i k a k' b h1 h2; (try rw [h1, h2]); exact h
  ·exact h.elim
 | mkmap id k =>
  simp only [vout, vop, runK, newK] at h ⊢
  refine ⟨h.1, ?_⟩
  have h := h.2
  cases hd : (sat s id).isDead with
  | true => rw [hd] at h; exact h
  | false => rw [hd] at h; exact h
 | look k kd z ok m x =>
  simp only [vout, vop] at h ⊢
  unfold lookO at h
  split at h
  ·rename_i id kv h1 h2
   rw [h1, h2]
   unfold lookO2 at h
   simp only
   split at h
   ·rename_i P' k' es hs
    rw [hs]
    exact ⟨h.1.1, h.1.2.1, h.1.2.2, h.2⟩
   ·exact h.elim
  ·exact h.elim
 | mput k kd m x v =>
  simp only [vout, vop] at h ⊢
  unfold mputO at h
  split at h
  ·rename_i id kv d h1 h2 h3
   rw [h1, h2, h3]
   unfold mputO2 at h
   simp only
   split at h
   ·rename_i P' k' es hs
    rw [hs]
    exact ⟨h.1.1, h.1.2.1, h.1.2.2.1, h.1.2.2.2.1, h.1.2.2.2.2, h.2⟩
   ·exact h.elim
  ·exact h.elim
 | mdel k kd m x =>
  simp only [vout, vop] at h ⊢
  unfold mdelO at h
  split at h
  ·rename_i id kv h1 h2
   rw [h1, h2]
   unfold mdelO2 at h
   simp only
   split at h
   ·rename_i P' k' es hs
    rw [hs]
    exact ⟨h.1.1, h.1.2.1, h.1.2.2, h.2⟩
   ·exact h.elim
  ·exact h.elim
 | dead => exact h
def callR (P : Program) (k0 f : Nat) (args env : List AV) (s : Sto) (d : Option Nat) (R : List AV -> Sto -> Prop) : Prop :=
 callS P k0 f args env s fun x env s => R (setD d env x) s
def vrun (P : Program) (k0 : Nat) (R : List AV -> Sto -> Prop) (d : Option Nat) : Out -> Prop
 | .ok x env s => R (setD d env x) s
 | .need p o => p /\ vrun P k0 R d o
 | .br b o1 o2 => if b = true then vrun P k0 R d o1 else vrun P k0 R d o2
 | .call f args env s => callR P k0 f args env s d R
 | .amb p o1 o2 => (p -> vrun P k0 R d o1) /\ vrun P k0 R d o2
 | .bad => False
def BrO (P : Program) (k0 : Nat) (R : List AV -> Sto -> Prop) (d : Option Nat) (b : Bool) (o1 o2 : Out) : Prop :=
 if b = true then vrun P k0 R d o1 else vrun P k0 R d o2
theorem vrun_br {P : Program} {k0 : Nat} {R : List AV -> Sto -> Prop} {d : Option Nat} {b : Bool} {o1 o2 : Out} : vrun P k0 R d (.br b o1 o2) = BrO P k0 R d b o1 o2 := (rfl)
theorem BrO_t {P : Program} {k0 : Nat} {R : List AV -> Sto -> Prop} {d : Option Nat} {o1 o2 : Out} : BrO P k0 R d true o1 o2 = vrun P k0 R d o1 := by simp [BrO]
theorem BrO_f {P : Program} {k0 : Nat} {R : List AV -> Sto -> Prop} {d : Option Nat} {o1 o2 : Out} : BrO P k0 R d false o1 o2 = vrun P k0 R d o2 := by simp [BrO]
def vgo (P : Program) (k0 : Nat) (K : List AV -> Sto -> Prop) : List MOper -> List AV -> Sto -> Prop
 | [], env, s => K env s
 | m :: ms, env, s => match m.guard with
  | none => vrun P k0 (vgo P k0 K ms) m.dst (vout P k0 env s m.op)
  | some (g, want) => match g with
   | none => vgo P k0 K ms (setD m.dst env (.tup [])) s
   | some d => match env.getD d .junk with
    | .d (.lit (.bool b)) => if b = want then vrun P k0 (vgo P k0 K ms) m.dst (vout P k0 env s m.op) else vgo P k0 K ms (setD m.dst env (.tup [])) s
    | .tup [] => vgo P k0 K ms (setD m.dst env (.tup [])) s
    | _ => False
def BrG (P : Program) (k0 : Nat) (K : List AV -> Sto -> Prop) (b want : Bool) (m : MOp) (d : Option Nat) (ms : List MOper) (env : List AV) (s : Sto) : Prop :=
 if b = want then vrun P k0 (vgo P k0 K ms) d (vout P k0 env s m) else vgo P k0 K ms (setD d env (.tup [])) s
section
variable {P : Program} {k0 : Nat} {K : List AV -> Sto -> Prop} {b want : Bool} {m : MOp} {d : Option Nat} {ms : List MOper} {env : List AV} {s : Sto}
theorem BrG_tt : BrG P k0 K true true m d ms env s = vrun P k0 (vgo P k0 K ms) d (vout P k0 env s m) := by simp [BrG]
theorem BrG_ff : BrG P k0 K false false m d ms env s = vrun P k0 (vgo P k0 K ms) d (vout P k0 env s m) := by simp [BrG]
theorem BrG_tf : BrG P k0 K true false m d ms env s = vgo P k0 K ms (setD d env (.tup [])) s := by simp [BrG]
theorem BrG_ft : BrG P k0 K false true m d ms env s = vgo P k0 K ms (setD d env (.tup [])) s := by simp [BrG]
def vgoG (P : Program) (k0 : Nat) (K : List AV -> Sto -> Prop) (want : Bool) (m : MOp) (d : Option Nat) (ms : List MOper) (env : List AV) (s : Sto) : AV -> Prop
 | .d (.lit (.bool b)) => BrG P k0 K b want m d ms env s
 | .tup [] => vgo P k0 K ms (setD d env (.tup [])) s
 | _ => False
theorem vgo_nil : vgo P k0 K [] env s = K env s := (rfl)
theorem vgo_plain : vgo P k0 K (⟨d, m, none⟩ :: ms) env s = vrun P k0 (vgo P k0 K ms) d (vout P k0 env s m) := (rfl)
theorem vgo_guard {g : Nat} : vgo P k0 K (⟨d, m, some (some g, want)⟩ :: ms) env s = vgoG P k0 K want m d ms env s (env.getD g .junk) := by
 simp only [vgo]
 split
 ·rename_i b h; rw [h]; rfl
 ·rename_i h; rw [h]; rfl
 ·rename_i h h'
  unfold vgoG
  split
  ·rename_i b h2; exact absurd h2 (h b)
  ·rename_i h2; exact absurd h2 h'
  ·rfl
theorem vrun_ok {R : List AV -> Sto -> Prop} {x : AV} : vrun P k0 R d (.ok x env s) = R (setD d env x) s := (rfl)
theorem vrun_need {R : List AV -> Sto -> Prop} {p : Prop} {o : Out} : vrun P k0 R d (.need p o) = (p /\ vrun P k0 R d o) := (rfl)
def AmbO (P : Program) (k0 : Nat) (R : List AV -> Sto -> Prop) (d : Option Nat) (p : Prop) (o1 o2 : Out) : Prop := (p -> vrun P k0 R d o1) /\ vrun P k0 R d o2
theorem AmbO.of {P : Program} {k0 : Nat} {R : List AV -> Sto -> Prop} {d : Option Nat} {p : Prop} {o1 o2 : Out} (h1 : p -> vrun P k0 R d o1) (h2 : vrun P k0 R d o2) : AmbO P k0 R d p o1 o2 := ⟨h1, h2⟩
theorem vrun_amb {R : List AV -> Sto -> Prop} {p : Prop} {o1 o2 : Out} : vrun P k0 R d (.amb p o1 o2) = AmbO P k0 R d p o1 o2 := (rfl)
theorem vrun_call {R : List AV -> Sto -> Prop} {f : Nat} {args : List AV} : vrun P k0 R d (.call f args env s) = callR P k0 f args env s d R := (rfl)
end
theorem vrun_runK {P : Program} {k0 : Nat} {R : List AV -> Sto -> Prop} {d : Option Nat} {K : AV -> List AV -> Sto -> Prop} (hK : ∀ x env s, R (setD d env x) s -> K x env s) :
 ∀ {o : Out}, vrun P k0 R d o -> runK P k0 K o
 | .ok x env s => fun h => hK x env s h
 | .need p o => fun h => ⟨h.1, vrun_runK hK h.2⟩
 | .br b o1 o2 => fun h => by
  cases b with
  | true => simp only [vrun, if_true] at h; simp only [runK, if_true]; exact vrun_runK hK h
  | false => simp only [vrun, Bool.false_eq_true, if_false] at h; simp only [runK, Bool.false_eq_true, if_false]; exact vrun_runK hK h
 | .call _ _ _ _ => fun h => callS_mono (K := fun x env s => R (setD d env x) s) h fun x env s => hK x env s
 | .amb p o1 o2 => fun h => ⟨fun hp => vrun_runK hK (h.1 hp), vrun_runK hK h.2⟩
 | .bad => fun h => h
theorem vgo_vops {P : Program} {k0 : Nat} {K : List AV -> Sto -> Prop} : ∀ {ms : List MOper} {env : List AV} {s : Sto}, vgo P k0 K ms env s -> vops P k0 ms env s K
 | [], env, s => fun h => h
 | m :: ms, env, s => fun h => by
  have step : vrun P k0 (vgo P k0 K ms) m.dst (vout P k0 env s m.op) -> vop P k0 m.op env s fun x env s => vops P k0 ms (setD m.dst env x) s K :=
   fun h => vout_vop (vrun_runK (fun _ _ _ h => vgo_vops h) h)
  simp only [vgo, vops] at h ⊢
  split
  ·rename_i hg; rw [hg] at h; exact step h
  ·rename_i g want hg
   rw [hg] at h
   cases g with
   | none => exact vgo_vops h
   | some d =>
    simp only at h ⊢
    split
    ·rename_i b hb
     rw [hb] at h
     unfold Br
     simp only at h
     split
     ·rename_i hbw; rw [if_pos hbw] at h; exact step h
     ·rename_i hbw; rw [if_neg hbw] at h; exact vgo_vops h
    ·rename_i hb; rw [hb] at h; exact vgo_vops h
    ·rename_i hb hb'
     split at h
     ·rename_i b h2; exact absurd h2 (hb b)
     ·rename_i h2; exact absurd h2 hb'
     ·exact h
theorem m_go {P : Program} {k : Nat} {Q : Post} {env : List AV} {s : Sto} {ms : List MOper} (h : vgo P k (Q .normal) ms env s) : MWp P k (.reg ms) Q env s := m_reg (vgo_vops h)
theorem lenO_d {x : D} {env : List AV} {s : Sto} : lenO env s (.d x) = lenO2 env s (slK (.d x)) := (rfl)
theorem lenO_own {e id : Nat} {xs : List D} {env : List AV} {s : Sto} : lenO env s (.own e id xs) = .ok (.d (iD xs.length)) env s := (rfl)
theorem ixaO2_msl {e e' id off len : Nat} {n : Int} {env : List AV} {s : Sto} : ixaO2 e n env s (.msl e' id off len) = .need (e' = e /\ 0 <= n /\ n < len) (.ok (.ptr id (off + n.toNat * e)) env s) := (rfl)
theorem ixaO2_d {e : Nat} {n : Int} {x : D} {env : List AV} {s : Sto} : ixaO2 e n env s (.d x) = ixaO3 e n env s (slK (.d x)) := (rfl)
theorem ixaO2_own {e e' id : Nat} {n : Int} {xs : List D} {env : List AV} {s : Sto} : ixaO2 e n env s (.own e' id xs) = ixaO3 e n env s (some (e', xs)) := (rfl)
theorem eqnilO_some {neg b : Bool} {env : List AV} {s : Sto} {x : AV} : eqnilO neg env s x (some b) = .ok (.d (bD (nilV neg b))) env s := (rfl)
theorem eqnilO_none {neg : Bool} {env : List AV} {s : Sto} {x : AV} : eqnilO neg env s x none = eqnilU neg env s (slK x) := (rfl)
attribute [go_sem] newMapO lookO lookO2 mputO mputO2 mdelO mdelO2 keyOkL litOf lookAV Ob.isDead mkslpO storeO4 isDp newNstO bslnO appnO appnO3 newLitO bsloO AV.flat appgO2 appgO newGroO bslgO segG loadO3 storeO3 appO4 eqnilO_some eqnilO_none kOk vrun_amb eqnilU vgo_nil vgo_plain vgo_guard vgoG vrun_ok vrun_need vrun_call vrun_br BrO_t BrO_f BrG_tt BrG_ff BrG_tf BrG_ft newObjO newTokO newMslO segAV segD loadO2 loadO storeO2 storeO binO binbV binbO nilV unO convO pickO nilcO fadO fldO ixaO3 ixaO2_msl ixaO2_d ixaO2_own ixaO ixaAO lenO2 lenO_d lenO_own lensO ixsO slsO2 slsO slcO2 slcF hiO mksldO slcO slcAO appO3 appO2 appO extO minmaxO boxO buildO bslO mkslO callvO vout List.drop_zero List.drop_succ_cons List.drop_nil List.take_zero List.take_succ_cons List.take_nil List.headD_cons List.append_nil true_and and_true Nat.zero_add Nat.add_zero if_true if_false Nat.le_refl
inductive Del where
 | ok (x : AV) (δ : List (Nat × Ob))
 | need (p : Prop) (o : Del)
 | br (b : Bool) (o1 o2 : Del)
 | call (f : Nat) (args : List AV)
 | bad
def bndρ (ρ : Operand -> AV) (dflt : Int) : Option Operand -> Option Int
 | none => some dflt
 | some x => aInt (ρ x)
def putPartsL (ρ : Operand -> AV) : List AV -> List (Nat × Nat × Operand) -> Option (List AV)
 | cs, [] => some cs
 | cs, (off, n, x) :: r => match (ρ x).cells with
  | some xs => if xs.length = n /\ off + n <= cs.length then putPartsL ρ (cs.take off ++ xs ++ cs.drop (off + n)) r else none
  | none => none
def loadL2 (n : Nat) (ag : Bool) (off : Nat) : Ob -> Del
 | .obj _ cs => .need (off + n <= cs.length) (.ok (segAV n off cs ag) [])
 | _ => .bad
def loadL3 (n : Nat) (ag : Bool) (k off : Nat) : Ob -> Del
 | .gro _ _ m cs => .need (m = k /\ off + n <= cs.length) (.ok (.d (segG n off cs ag)) [])
 | _ => .bad
def loadL (σ : Nat -> Ob) (n : Nat) (ag : Bool) : AV -> Del
 | .ptr id off => loadL2 n ag off (σ id)
 | .gptr id k off => loadL3 n ag k off (σ id)
 | .pv cs => .need (n <= cs.length) (.ok (.d (segD n cs ag)) [])
 | _ => .bad
def storeL2 (n off id : Nat) : Ob -> Option (List AV) -> Del
 | .obj t cs, some xs => .need (xs.length = n /\ off + n <= cs.length) (.ok .junk [(id, (.obj t (cs.take off ++ xs ++ cs.drop (off + n))))])
 | _, _ => .bad
def storeL3 (n k off id : Nat) : Ob -> Option D -> Del
 | .gro t e m cs, some d => .need (m = k /\ (dcells d).length = n /\ off + n <= cs.length) (.ok .junk [(id, .gro t e m (cs.take off ++ dcells d ++ cs.drop (off + n)))])
 | _, _ => .bad
def storeL (σ : Nat -> Ob) (n : Nat) (x : AV) : AV -> Del
 | .ptr id off => storeL2 n off id (σ id) x.cells
 | .gptr id k off => storeL3 n k off id (σ id) x.fin
 | _ => .bad
def binL (op : BinOp) : AV -> AV -> Del
 | .d (.lit (.int k a)), .d (.lit (.int k' b)) => .need (kOk op k k') <| match op with
  | .add => .ok (.d (.lit (.int k (k.wrap (a + b))))) []
  | .sub => .ok (.d (.lit (.int k (k.wrap (a - b))))) []
  | .mul => .ok (.d (.lit (.int k (k.wrap (a * b))))) []
  | .quo => .need (b ≠ 0) (.ok (.d (.lit (.int k (k.wrap (a.tdiv b))))) [])
  | .rem => .need (b ≠ 0) (.ok (.d (.lit (.int k (a.tmod b)))) [])
  | .eql => .ok (.d (bD (a == b))) []
  | .neq => .ok (.d (bD (a != b))) []
  | .lss => .ok (.d (bD (decide (a < b)))) []
  | .leq => .ok (.d (bD (decide (a <= b)))) []
  | .gtr => .ok (.d (bD (decide (b < a)))) []
  | .geq => .ok (.d (bD (decide (b <= a)))) []
  | .and => .ok (.d (.lit (.int k (andI k a b)))) []
  | .or => .ok (.d (.lit (.int k (orI k a b)))) []
  | .xor => .ok (.d (.lit (.int k (xorI k a b)))) []
  | .andNot => .ok (.d (.lit (.int k (andnI k a b)))) []
  | .shl => .need (0 <= b) (.ok (.d (.lit (.int k (shlI k a b)))) [])
  | .shr => .need (0 <= b) (.ok (.d (.lit (.int k (shrI k a b)))) [])
 | .d (.lit (.string a)), .d (.lit (.string b)) => match op with
  | .add => .need (a.size + b.size < 2 ^ 63) (.ok (.d (.lit (.string (a ++ b)))) [])
  | .eql => .ok (.d (bD (a.toList == b.toList))) []
  | .neq => .ok (.d (bD (!(a.toList == b.toList)))) []
  | _ => .bad
 | _, _ => .bad
def binbL (neg : Bool) : AV -> AV -> Del
 | .d (.lit (.bool a)), .d (.lit (.bool b)) => .ok (.d (bD (binbV neg a b))) []
 | _, _ => .bad
def eqnilL (neg : Bool) : Option Bool -> Del
 | some b => .ok (.d (bD (nilV neg b))) []
 | none => .bad
def unL : UnOp -> AV -> Del
 | .not, .d (.lit (.bool b)) => .ok (.d (bD (!b))) []
 | .neg, .d (.lit (.int k n)) => .ok (.d (.lit (.int k (k.wrap (0 - n))))) []
 | _, _ => .bad
def convL (k : IntKind) : AV -> Del
 | .d (.lit (.int _ n)) => .ok (.d (.lit (.int k (k.wrap n)))) []
 | _ => .bad
def pickL (a b : AV) : AV -> Del
 | .d (.lit (.bool t)) => .br t (.ok a []) (.ok b [])
 | _ => .bad
def nilcL : AV -> Del
 | .ptr id off => .ok (.ptr id off) []
 | .pv cs => .ok (.pv cs) []
 | .fn f a b => .ok (.fn f a b) []
 | .gptr id m off => .ok (.gptr id m off) []
 | _ => .bad
def fadL (off : Nat) : AV -> Del
 | .ptr id o => .ok (.ptr id (o + off)) []
 | .pv cs => .ok (.pv (cs.drop off)) []
 | .gptr id k o => .ok (.gptr id k (o + off)) []
 | _ => .bad
def fldL (off n : Nat) (ag : Bool) : Option (List AV) -> Del
 | some cs => .need (off + (match ag with | true => n | false => 1) <= cs.length) (.ok (segAV n off cs ag) [])
 | none => .bad
def ixaL3 (e : Nat) (n : Int) : Option (Nat × List D) -> Del
 | some (e', xs) => .need (e' = e /\ 0 <= n /\ n < xs.length) (.ok (.pv (dcells (xs.getD n.toNat .any))) [])
 | none => .bad
def ixaL2 (e : Nat) (n : Int) : AV -> Del
 | .msl e' id off len => .need (e' = e /\ 0 <= n /\ n < len) (.ok (.ptr id (off + n.toNat * e)) [])
 | .gow e' id m => .need (e' = e /\ 0 <= n /\ n < m) (.ok (.gptr id m (n.toNat * e)) [])
 | x => ixaL3 e n (slK x)
def ixaL (e : Nat) (x : AV) : Option Int -> Del
 | some n => ixaL2 e n x
 | none => .bad
def ixaAL (e n : Nat) : Option Int -> AV -> Del
 | some j, .ptr id off => .need (0 <= j /\ j < n) (.ok (.ptr id (off + j.toNat * e)) [])
 | some j, .pv cs => .need (0 <= j /\ j < n) (.ok (.pv (cs.drop (j.toNat * e))) [])
 | _, _ => .bad
def lenL2 : Option (Nat × List D) -> Del
 | some (_, xs) => .ok (.d (iD xs.length)) []
 | none => .bad
def lenL : AV -> Del
 | .msl _ _ _ n => .ok (.d (iD n)) []
 | .gow _ _ n => .ok (.d (iD n)) []
 | x => lenL2 (slK x)
def lensL : AV -> Del
 | .d (.lit (.string b)) => .ok (.d (iD b.size)) []
 | _ => .bad
def ixsL : AV -> AV -> Del
 | .d (.lit (.string b)), .d (.lit (.int _ n)) => .need (0 <= n /\ n < b.size) (.ok (.d (.lit (.int .u8 (sget b n.toNat)))) [])
 | _, _ => .bad
def slsL2 (b : ByteArray) : Option Int -> Option Int -> Del
 | some l, some h => .need (0 <= l /\ l <= h /\ h <= b.size) (.ok (.d (.lit (.string (b.extract l.toNat h.toNat)))) [])
 | _, _ => .bad
def slsL (ρ : Operand -> AV) (lo hi : Option Operand) : AV -> Del
 | .d (.lit (.string b)) => slsL2 b (bndρ ρ 0 lo) (bndρ ρ b.size hi)
 | _ => .bad
def slcL2 (ρ : Operand -> AV) (x : AV) (e : Nat) (lo : Option Int) (hi : Option Operand) : Option (Nat × List D) -> Del
 | some (e', xs) => match lo, bndρ ρ xs.length hi with
  | some l, some h => .need ((xs = [] ∨ e' = e) /\ 0 <= l /\ l <= h /\ h <= xs.length) (.ok (.d (.sl e' (nlK x) ((xs.take h.toNat).drop l.toNat))) [])
  | _, _ => .bad
 | none => .bad
def slcFL (e : Nat) : Option Operand -> Option Int -> Option Int -> Option (Nat × List D) -> Del
 | none, some h, some m, some (e', xs) => .need ((xs = [] ∨ e' = e) /\ h = m /\ 0 <= h /\ h <= xs.length) (.ok (.ful e' (xs.take h.toNat)) [])
 | _, _, _, _ => .bad
def hiL (ρ : Operand -> AV) : Option Operand -> Option Int
 | some h => aInt (ρ h)
 | none => none
def slcL (ρ : Operand -> AV) (x : AV) (e : Nat) (lo hi : Option Operand) : Option Operand -> Del
 | none => slcL2 ρ x e (bndρ ρ 0 lo) hi (slK x)
 | some m => slcFL e lo (hiL ρ hi) (aInt (ρ m)) (slK x)
def slcAL (ρ : Operand -> AV) (e n : Nat) : AV -> Option Operand -> Option Operand -> Option Operand -> Del
 | .ptr id off, none, none, none => .ok (.msl e id off n) []
 | .ptr id off, none, some h, none => match aInt (ρ h) with
  | some h => .need (0 <= h /\ h <= n) (.ok (.msl e id off h.toNat) [])
  | none => .bad
 | _, _, _, _ => .bad
def appL3 (t e bytes : Nat) (j : Nat) (xs ys : List D) (ob : Ob) : Del :=
 .need (ob = .tok t e xs.length /\ (xs.length + ys.length) * bytes <= 2 ^ 47) (.ok (.own e j (xs ++ ys)) [(j, (.tok t e (xs.length + ys.length)))])
def appL4 (t e bytes : Nat) (j n : Nat) (ys : List D) : Ob -> Del
 | .gro t' e2 m cs => .need (t' = t /\ e2 = e /\ m = n /\ (n + ys.length) * bytes <= 2 ^ 47) (.ok (.gow e j (n + ys.length)) [(j, .gro t e (n + ys.length) (cs ++ ys.flatMap dcells))])
 | _ => .bad
def appL2 (σ : Nat -> Ob) (id t e bytes k0 : Nat) (e2 : Nat) (ys : List D) : AV -> Del
 | .own e' j xs => .need ((ys = [] ∨ e2 = e) /\ e' = e) (appL3 t e bytes j xs ys (σ j))
 | .gow e' j n => .need ((ys = [] ∨ e2 = e) /\ e' = e) (appL4 t e bytes j n ys (σ j))
 | .d (.sl _ (some true) []) => .need ((ys = [] ∨ e2 = e) /\ ys.length * bytes <= 2 ^ 47 /\ k0 <= id /\ (σ id).isDead = true) (.ok (.own e id ys) [(id, .tok t e ys.length)])
 | .ful e' xs => .need ((ys = [] ∨ e2 = e) /\ e' = e /\ (xs.length + ys.length) * bytes <= 2 ^ 47) (.ok (.d (.sl e none (xs ++ ys))) [])
 | _ => .bad
def appL (σ : Nat -> Ob) (id t e bytes k0 : Nat) (x : AV) : Option (Nat × List D) -> Del
 | some (e2, ys) => appL2 σ id t e bytes k0 e2 ys x
 | none => .bad
def appgL2 (σ : Nat -> Ob) (id t e bytes k0 : Nat) (e2 : Nat) (ys : List D) : AV -> Del
 | .d (.sl _ (some true) []) => .need ((ys = [] ∨ e2 = e) /\ ys.length * bytes <= 2 ^ 47 /\ k0 <= id /\ (σ id).isDead = true) (.ok (.gow e id ys.length) [(id, .gro t e ys.length (ys.flatMap dcells))])
 | x => appL2 σ id t e bytes k0 e2 ys x
def appgL (σ : Nat -> Ob) (id t e bytes k0 : Nat) (x : AV) : Option (Nat × List D) -> Del
 | some (e2, ys) => appgL2 σ id t e bytes k0 e2 ys x
 | none => .bad
def extL (i : Nat) : AV -> Del
 | .tup cs => .need (i < cs.length) (.ok (cs.getD i .junk) [])
 | _ => .bad
def minmaxL (mx : Bool) : AV -> AV -> Del
 | .d (.lit (.int k a)), .d (.lit (.int k' b)) => .need (k = k') (.ok (.d (.lit (.int k (match mx with | true => if b > a then b else a | false => if b < a then b else a)))) [])
 | _, _ => .bad
def boxL (σ : Nat -> Ob) (id t k0 : Nat) : Option (List AV) -> Del
 | some cs => .need (k0 <= id /\ (σ id).isDead = true) (.ok (.ptr id 0) [(id, .obj t cs)])
 | none => .bad
def buildL : Option (List AV) -> Del
 | some cs => .ok (AV.mk cs) []
 | none => .bad
def bslL (σ : Nat -> Ob) (id t e k0 : Nat) : Option (List D) -> Del
 | some ds => .need ((∀ d ∈ ds, (dcells d).length = e) /\ k0 <= id /\ (σ id).isDead = true) (.ok (.own e id ds) [(id, .tok t e ds.length)])
 | none => .bad
def bslnL (σ : Nat -> Ob) (id t e k0 : Nat) : Option (List D) -> Option (List AV) -> Del
 | some ds, some cs => .need ((∀ d ∈ ds, (dcells d).length = e) /\ noDp cs = true /\ k0 <= id /\ (σ id).isDead = true) (.ok (.own e id ds) [(id, .nst t e ds.length cs)])
 | _, _ => .bad
def appnL3 (t e j j2 : Nat) (xs ys : List D) : Ob -> Ob -> Del
 | .nst t1 e3 n cs, .nst t2 e4 m cs2 => .need (t1 = t /\ e3 = e /\ n = xs.length /\ e4 = e /\ m = ys.length)
  (.ok (.own e j (xs ++ ys)) [(j, .nst t e (xs.length + ys.length) (cs ++ cs2)), (j2, .nst t2 e ys.length (List.replicate cs2.length .junk))])
 | _, _ => .bad
def appnL (σ : Nat -> Ob) (t e bytes : Nat) : AV -> AV -> Del
 | .own e' j xs, .own e2 j2 ys => .need (e' = e /\ e2 = e /\ j ≠ j2 /\ ys ≠ [] /\ (xs.length + ys.length) * bytes <= 2 ^ 47) (appnL3 t e j j2 xs ys (σ j) (σ j2))
 | _, _ => .bad
def bslgL (σ : Nat -> Ob) (id t e k0 : Nat) : Option (List D) -> Del
 | some ds => .need ((∀ d ∈ ds, (dcells d).length = e) /\ k0 <= id /\ (σ id).isDead = true) (.ok (.gow e id ds.length) [(id, .gro t e ds.length (ds.flatMap dcells))])
 | none => .bad
def mkslL (σ : Nat -> Ob) (id t e bytes k0 : Nat) (z : List D) : Bool -> Option Int -> Option Int -> Del
 | true, some l, some c => .need (0 <= l /\ l <= c /\ bytes * c <= 2 ^ 48 /\ c < 2 ^ 62 /\ k0 <= id /\ (σ id).isDead = true) (.ok (.own e id []) [(id, .tok t e 0)])
 | false, some l, some c => .need (0 <= l /\ l <= c /\ bytes * c <= 2 ^ 48 /\ c < 2 ^ 62 /\ k0 <= id /\ (σ id).isDead = true) (.ok (.msl e id 0 l.toNat) [(id, .obj t ((List.replicate l.toNat (z.map .d)).flatten))])
 | _, _, _ => .bad
def mksldL (e bytes : Nat) : List D -> Bool -> Option Int -> Option Int -> Del
 | [zd], false, some l, some c => .need (e = 1 /\ 0 <= l /\ l <= c /\ bytes * c <= 2 ^ 48 /\ c < 2 ^ 62) (.ok (.d (.sl 1 none (List.replicate l.toNat zd))) [])
 | _, _, _, _ => .bad
def callvL (P : Program) (args : List AV) : AV -> Del
 | .fn f first cap => .need (enters P f = true) (.call f (first ++ args ++ cap))
 | _ => .bad
def vdel (P : Program) (k0 : Nat) (ρ : Operand -> AV) (σ : Nat -> Ob) : MOp -> Del
 | .mv x => .ok (ρ x) []
 | .pick c a b => pickL (ρ a) (ρ b) (ρ c)
 | .alloc id t z => .need (k0 <= id /\ (σ id).isDead = true) (.ok (.ptr id 0) [(id, .obj t (z.map .d))])
 | .box id t x => boxL σ id t k0 (ρ x).cells
 | .boxi _ _ _ _ => .bad
 | .build z ps => buildL (putPartsL ρ (z.map .d) ps)
 | .bsl id t e xs => bslL σ id t e k0 (AV.finAll (xs.map ρ))
 | .bslg id t e xs => bslgL σ id t e k0 (AV.finAll (xs.map ρ))
 | .bslo _ _ _ _ => .bad
 | .bsln id t e xs => bslnL σ id t e k0 (AV.finAll (xs.map ρ)) (AV.flat e (xs.map ρ))
 | .appn _ t e bytes x y => appnL σ t e bytes (ρ x) (ρ y)
 | .load n ag p => loadL σ n ag (ρ p)
 | .store n p x => storeL σ n (ρ x) (ρ p)
 | .nilc x => nilcL (ρ x)
 | .bin op x y => binL op (ρ x) (ρ y)
 | .binb neg x y => binbL neg (ρ x) (ρ y)
 | .eqnil neg x => eqnilL neg (nlK (ρ x))
 | .un op x => unL op (ρ x)
 | .conv k x => convL k (ρ x)
 | .mkfn f first cap => .ok (.fn f (first.map ρ) (cap.map ρ)) []
 | .mksld _ _ e bytes z tok len cap => mksldL e bytes z tok (aInt (ρ len)) (aInt (ρ cap))
 | .mkslp _ _ _ _ _ _ _ _ => .bad
 | .mksl id t e bytes z tok len cap => mkslL σ id t e bytes k0 z tok (aInt (ρ len)) (aInt (ρ cap))
 | .slc x e lo hi mx => slcL ρ (ρ x) e lo hi mx
 | .slcA p e n lo hi mx => slcAL ρ e n (ρ p) lo hi mx
 | .fad off p => fadL off (ρ p)
 | .fld off n ag x => fldL off n ag (ρ x).acells
 | .ixa e x i => ixaL e (ρ x) (aInt (ρ i))
 | .ixaA e n p i => ixaAL e n (aInt (ρ i)) (ρ p)
 | .len x => lenL (ρ x)
 | .lens x => lensL (ρ x)
 | .ixs x i => ixsL (ρ x) (ρ i)
 | .sls x lo hi => slsL ρ lo hi (ρ x)
 | .app id t e bytes x y => appL σ id t e bytes k0 (ρ x) (slK (ρ y))
 | .appg id t e bytes x y => appgL σ id t e bytes k0 (ρ x) (slK (ρ y))
 | .callf f args => .call f (args.map ρ)
 | .callv g args => callvL P (args.map ρ) (ρ g)
 | .ext x i => extL i (ρ x)
 | .max x y => minmaxL true (ρ x) (ρ y)
 | .min x y => minmaxL false (ρ x) (ρ y)
 | .mkmap _ _ | .look _ _ _ _ _ _ | .mput _ _ _ _ _ | .mdel _ _ _ _ => .bad
 | .dead => .bad
def sapp (s : Sto) : List (Nat × Ob) -> Sto
 | [] => s
 | (i, ob) :: r => sapp (sset s i ob) r
def Del.out (env : List AV) (s : Sto) : Del -> Out
 | .ok x δ => .ok x env (sapp s δ)
 | .need p o => .need p (o.out env s)
 | .br b o1 o2 => .br b (o1.out env s) (o2.out env s)
 | .call f args => .call f args env s
 | .bad => .bad
theorem bndρ_ev {env : List AV} {d : Int} {x : Option Operand} : bndρ (ev env) d x = bnd env d x := by cases x <;> rfl
theorem putPartsL_ev {env : List AV} : ∀ {ps : List (Nat × Nat × Operand)} {cs : List AV}, putPartsL (ev env) cs ps = putParts env cs ps
 | [], cs => rfl
 | (off, n, x) :: r, cs => by
  simp only [putPartsL, putParts]
  cases (ev env x).cells with
  | none => rfl
  | some xs => simp only; split <;> simp [putPartsL_ev]
theorem app_vdel {P : Program} {k0 id t e bytes : Nat} {x : AV} {Y : Option (Nat × List D)} {env : List AV} {s : Sto} {K : AV -> List AV -> Sto -> Prop} (h : runK P k0 K ((appL (sat s) id t e bytes k0 x Y).out env s)) :
 runK P k0 K (appO id t e bytes k0 x env s Y) := by
 have dead : ∀ {id : Nat}, (sat s id).isDead = true -> sat s id = .dead := fun {id} h => by cases hs : sat s id <;> simp_all [Ob.isDead]
 cases Y with
 | none => exact h
 | some p =>
  obtain ⟨e2, ys⟩ := p
  simp only [appL, appO, appL2, appO2] at h ⊢
  split at h
  ·simp only [appL3, appO3, Del.out, runK, sapp] at h ⊢
   exact h
  ·rename_i e' j n
   simp only [Del.out, runK] at h ⊢
   refine ⟨h.1, ?_⟩
   have h := h.2
   generalize sat s j = X at h ⊢
   cases X <;> exact h
  ·simp only [Del.out, runK, sapp] at h ⊢
   rw [dead h.1.2.2.2]
   exact ⟨⟨h.1.1, h.1.2.1, h.1.2.2.1⟩, h.2⟩
  ·exact h
  ·exact h.elim
theorem appg_vdel {P : Program} {k0 id t e bytes : Nat} {x : AV} {Y : Option (Nat × List D)} {env : List AV} {s : Sto} {K : AV -> List AV -> Sto -> Prop} (h : runK P k0 K ((appgL (sat s) id t e bytes k0 x Y).out env s)) :
 runK P k0 K (appgO id t e bytes k0 x env s Y) := by
 have dead : ∀ {id : Nat}, (sat s id).isDead = true -> sat s id = .dead := fun {id} h => by cases hs : sat s id <;> simp_all [Ob.isDead]
 cases Y with
 | none => exact h
 | some p =>
  obtain ⟨e2, ys⟩ := p
  simp only [appgL, appgO] at h ⊢
  unfold appgL2 at h
  split at h
  ·simp only [appgO2, Del.out, runK, sapp] at h ⊢
   rw [dead h.1.2.2.2]
   exact ⟨⟨h.1.1, h.1.2.1, h.1.2.2.1⟩, h.2⟩
  ·rename_i hn
   unfold appgO2
   split
   ·rename_i e4; exact absurd rfl (hn e4)
   ·exact app_vdel (Y := some (e2, ys)) h
theorem vdel_vout {P : Program} {k0 : Nat} {m : MOp} {env : List AV} {s : Sto} {K : AV -> List AV -> Sto -> Prop}
 (h : runK P k0 K ((vdel P k0 (ev env) (sat s) m).out env s)) : runK P k0 K (vout P k0 env s m) := by
 have dead : ∀ {id : Nat}, (sat s id).isDead = true -> sat s id = .dead := fun {id} h => by cases hs : sat s id <;> simp_all [Ob.isDead]
 cases m with
 | mv x => exact h
 | pick c a b =>
  simp only [vdel, vout, pickL, pickO] at h ⊢
  generalize ev env c = Xc at h ⊢
  cases Xc with
  | d x => cases x with
   | lit u => cases u <;> exact h
   | _ => exact h
  | _ => exact h
 | alloc id t z =>
  simp only [vdel, vout, Del.out, runK, sapp] at h ⊢
  rw [dead h.1.2]
  exact ⟨h.1.1, h.2⟩
 | boxi id d t x => simp only [vdel] at h; exact h.elim
 | box id t x =>
  simp only [vdel, vout] at h ⊢
  generalize (ev env x).cells = X at h ⊢
  cases X with
  | none => exact h
  | some cs =>
   simp only [boxL, boxO, Del.out, runK, sapp] at h ⊢
   rw [dead h.1.2]
   exact ⟨h.1.1, h.2⟩
 | build z ps =>
  simp only [vdel, vout, putPartsL_ev] at h ⊢
  generalize putParts env (z.map .d) ps = X at h ⊢; cases X <;> exact h
 | bsl id t e xs =>
  simp only [vdel, vout] at h ⊢
  generalize AV.finAll (xs.map (ev env)) = X at h ⊢
  cases X with
  | none => exact h
  | some ds =>
   simp only [bslL, bslO, Del.out, runK, sapp] at h ⊢
   rw [dead h.1.2.2]
   exact ⟨⟨h.1.1, h.1.2.1⟩, h.2⟩
 | bslo id t e xs => simp only [vdel] at h; exact h.elim
 | bsln id t e xs =>
  simp only [vdel, vout] at h ⊢
  generalize AV.finAll (xs.map (ev env)) = X at h ⊢
  generalize AV.flat e (xs.map (ev env)) = Y at h ⊢
  cases X with
  | none => cases Y <;> exact h.elim
  | some ds => cases Y with
   | none => exact h.elim
   | some cs =>
    simp only [bslnL, bslnO, Del.out, runK, sapp] at h ⊢
    rw [dead h.1.2.2.2]
    exact ⟨⟨h.1.1, h.1.2.1, h.1.2.2.1⟩, h.2⟩
 | appn id t e bytes x y =>
  simp only [vdel, vout] at h ⊢
  generalize ev env x = X at h ⊢
  generalize ev env y = Y at h ⊢
  unfold appnL at h
  unfold appnO
  split at h
  ·rename_i e' j xs e2 j2 ys
   simp only [Del.out, runK] at h ⊢
   refine ⟨h.1, ?_⟩
   have h := h.2
   generalize sat s j = A at h ⊢
   generalize sat s j2 = B at h ⊢
   cases A <;> cases B <;> exact h
  ·exact h.elim
 | bslg id t e xs =>
  simp only [vdel, vout] at h ⊢
  generalize AV.finAll (xs.map (ev env)) = X at h ⊢
  cases X with
  | none => exact h
  | some ds =>
   simp only [bslgL, bslgO, Del.out, runK, sapp] at h ⊢
   rw [dead h.1.2.2]
   exact ⟨⟨h.1.1, h.1.2.1⟩, h.2⟩
 | load n ag p =>
  simp only [vdel, vout, loadL, loadO] at h ⊢
  generalize ev env p = Xp at h ⊢
  cases Xp with
  | ptr id off => simp only at h ⊢; generalize sat s id = X at h ⊢; cases X <;> exact h
  | gptr id kk off => simp only at h ⊢; generalize sat s id = X at h ⊢; cases X <;> first | exact h | exact h.elim
  | _ => exact h
 | store n p x =>
  simp only [vdel, vout, storeL, storeO] at h ⊢
  generalize ev env p = Xp at h ⊢
  cases Xp with
  | ptr id off => simp only at h ⊢; generalize sat s id = X at h ⊢; generalize (ev env x).cells = Y at h ⊢; cases X <;> cases Y <;> exact h
  | gptr id kk off => simp only at h ⊢; generalize sat s id = X at h ⊢; generalize (ev env x).fin = Y at h ⊢; cases X <;> cases Y <;> first | exact h | exact h.elim
  | _ => exact h
 | nilc x => simp only [vdel, vout] at h ⊢; generalize ev env x = X at h ⊢; cases X <;> exact h
 | bin op x y =>
  simp only [vdel, vout, binL, binO] at h ⊢
  generalize ev env x = Xx at h ⊢
  generalize ev env y = Xy at h ⊢
  cases Xx with
  | d x1 => cases x1 with
   | lit u => cases u with
    | int k a => cases Xy with
     | d y1 => cases y1 with
      | lit v => cases v with
       | int k' b => cases op <;> exact h
       | _ => exact h
      | _ => exact h
     | _ => exact h
    | string a => cases Xy with
     | d y1 => cases y1 with
      | lit v => cases v with
       | string b => cases op <;> exact h
       | _ => exact h
      | _ => exact h
     | _ => exact h
    | _ => exact h
   | _ => exact h
  | _ => exact h
 | binb neg x y =>
  simp only [vdel, vout, binbL, binbO] at h ⊢
  generalize ev env x = Xx at h ⊢
  generalize ev env y = Xy at h ⊢
  cases Xx with
  | d x1 => cases x1 with
   | lit u => cases u with
    | bool a => cases Xy with
     | d y1 => cases y1 with
      | lit v => cases v <;> exact h
      | _ => exact h
     | _ => exact h
    | _ => exact h
   | _ => exact h
  | _ => exact h
 | eqnil neg x => simp only [vdel, vout] at h ⊢; generalize nlK (ev env x) = X at h ⊢; cases X <;> first | exact h | exact h.elim
 | un op x =>
  simp only [vdel, vout, unL, unO] at h ⊢
  generalize ev env x = X at h ⊢
  cases op <;> cases X with
  | d x1 => cases x1 with
   | lit u => cases u <;> exact h
   | _ => exact h
  | _ => exact h
 | conv k x =>
  simp only [vdel, vout, convL, convO] at h ⊢
  generalize ev env x = Xx at h ⊢
  cases Xx with
  | d x1 => cases x1 with
   | lit u => cases u <;> exact h
   | _ => exact h
  | _ => exact h
 | mkfn f first cap => exact h
 | mkslp id t e bytes z tok len cap => simp only [vdel] at h; exact h.elim
 | mksld id t e bytes z tok len cap =>
  simp only [vdel, vout] at h ⊢
  generalize aInt (ev env len) = X at h ⊢
  generalize aInt (ev env cap) = Y at h ⊢
  cases z with
  | nil => cases tok <;> cases X <;> cases Y <;> exact h
  | cons zd z => cases z <;> cases tok <;> cases X <;> cases Y <;> exact h
 | mksl id t e bytes z tok len cap =>
  simp only [vdel, vout] at h ⊢
  generalize aInt (ev env len) = X at h ⊢
  generalize aInt (ev env cap) = Y at h ⊢
  cases tok <;> cases X <;> cases Y <;> simp only [mkslL, mkslO, Del.out, runK, sapp] at h ⊢
  ·rw [dead h.1.2.2.2.2.2]; exact ⟨⟨h.1.1, h.1.2.1, h.1.2.2.1, h.1.2.2.2.1, h.1.2.2.2.2.1⟩, h.2⟩
  ·rw [dead h.1.2.2.2.2.2]; exact ⟨⟨h.1.1, h.1.2.1, h.1.2.2.1, h.1.2.2.2.1, h.1.2.2.2.2.1⟩, h.2⟩
 | slc x e lo hi mx =>
  simp only [vdel, vout] at h ⊢
  cases mx with
  | some m =>
   simp only [slcL, slcO] at h ⊢
   generalize slK (ev env x) = X at h ⊢
   generalize aInt (ev env m) = M at h ⊢
   cases hi with
   | none => cases lo <;> cases M <;> cases X <;> exact h
   | some hh =>
    simp only [hiL, hiO] at h ⊢
    generalize aInt (ev env hh) = H at h ⊢
    cases lo <;> cases H <;> cases M <;> cases X <;> exact h
  | none =>
   simp only [slcL, slcO, bndρ_ev] at h ⊢
   generalize slK (ev env x) = X at h ⊢
   cases X with
   | none => exact h
   | some p =>
    simp only [slcL2, slcO2, bndρ_ev] at h ⊢
    generalize bnd env 0 lo = X at h ⊢
    generalize bnd env p.2.length hi = Y at h ⊢
    cases X <;> cases Y <;> exact h
 | slcA p e n lo hi mx =>
  simp only [vdel, vout, slcAL, slcAO] at h ⊢
  generalize ev env p = X at h ⊢
  cases X <;> cases lo <;> cases hi <;> cases mx <;> first
   | exact h
   | (rename_i q; simp only at h ⊢; generalize aInt (ev env q) = Z at h ⊢; cases Z <;> exact h)
 | fad off p => simp only [vdel, vout] at h ⊢; generalize ev env p = X at h ⊢; cases X <;> exact h
 | fld off n ag x => simp only [vdel, vout] at h ⊢; generalize (ev env x).acells = X at h ⊢; cases X <;> exact h
 | ixa e x i =>
  simp only [vdel, vout] at h ⊢
  generalize aInt (ev env i) = I at h ⊢
  cases I with
  | none => exact h
  | some n =>
   simp only [ixaL, ixaO] at h ⊢
   generalize ev env x = X at h ⊢
   cases X <;> simp only [ixaL2, ixaO2] at h ⊢ <;> first
    | exact h
    | (revert h; generalize slK _ = q; intro h; cases q <;> exact h)
 | ixaA e n p i => simp only [vdel, vout] at h ⊢; generalize aInt (ev env i) = X at h ⊢; generalize ev env p = Y at h ⊢; cases X <;> cases Y <;> exact h
 | len x =>
  simp only [vdel, vout] at h ⊢
  generalize ev env x = X at h ⊢
  cases X <;> simp only [lenL, lenO] at h ⊢ <;> first
   | exact h
   | (revert h; generalize slK _ = q; intro h; cases q <;> exact h)
 | lens x =>
  simp only [vdel, vout, lensL, lensO] at h ⊢
  generalize ev env x = Xx at h ⊢
  cases Xx with
  | d x1 => cases x1 with
   | lit u => cases u <;> exact h
   | _ => exact h
  | _ => exact h
 | ixs x i =>
  simp only [vdel, vout, ixsL, ixsO] at h ⊢
  generalize ev env x = Xx at h ⊢
  generalize ev env i = Xy at h ⊢
  cases Xx with
  | d x1 => cases x1 with
   | lit u => cases u with
    | string a => cases Xy with
     | d y1 => cases y1 with
      | lit v => cases v <;> exact h
      | _ => exact h
     | _ => exact h
    | _ => exact h
   | _ => exact h
  | _ => exact h
 | sls x lo hi =>
  simp only [vdel, vout, slsL, slsO, bndρ_ev] at h ⊢
  generalize ev env x = Xx at h ⊢
  cases Xx with
  | d x1 => cases x1 with
   | lit u => cases u with
    | string a =>
     simp only at h ⊢
     generalize bnd env 0 lo = X at h ⊢
     generalize bnd env a.size hi = Y at h ⊢
     cases X <;> cases Y <;> exact h
    | _ => exact h
   | _ => exact h
  | _ => exact h
 | app id t e bytes x y => exact app_vdel h
 | appg id t e bytes x y => exact appg_vdel h
 | callf f args => exact h
 | callv g args =>
  simp only [vdel, vout] at h ⊢
  generalize ev env g = X at h ⊢; cases X <;> exact h
 | ext x i => simp only [vdel, vout] at h ⊢; generalize ev env x = X at h ⊢; cases X <;> exact h
 | max x y =>
  simp only [vdel, vout, minmaxL, minmaxO] at h ⊢
  generalize ev env x = Xx at h ⊢
  generalize ev env y = Xy at h ⊢
  cases Xx with
  | d x1 => cases x1 with
   | lit u => cases u with
    | int k a => cases Xy with
     | d y1 => cases y1 with
      | lit v => cases v <;> exact h
      | _ => exact h
     | _ => exact h
    | _ => exact h
   | _ => exact h
  | _ => exact h
 | min x y =>
  simp only [vdel, vout, minmaxL, minmaxO] at h ⊢
  generalize ev env x = Xx at h ⊢
  generalize ev env y = Xy at h ⊢
  cases Xx with
  | d x1 => cases x1 with
   | lit u => cases u with
    | int k a => cases Xy with
     | d y1 => cases y1 with
      | lit v => cases v <;> exact h
      | _ => exact h
     | _ => exact h
    | _ => exact h
   | _ => exact h
  | _ => exact h
 | dead => exact h
 | _ => exact h.elim
def otmp : Operand -> List Nat
 | .tmp t => [t]
 | _ => []
def otmps (xs : List Operand) : List Nat := xs.flatMap otmp
def ootmp : Option Operand -> List Nat
 | some x => otmp x
 | none => []
def mreads : MOp -> List Nat
 | .mv x | .nilc x | .un _ x | .conv _ x | .fad _ x | .fld _ _ _ x | .len x | .lens x | .ext x _ | .box _ _ x | .boxi _ _ _ x | .load _ _ x | .eqnil _ x => otmp x
 | .pick c a b => otmp c ++ otmp a ++ otmp b
 | .ixs x i => otmp x ++ otmp i
 | .sls x lo hi => otmp x ++ (ootmp lo ++ ootmp hi)
 | .store _ p x => otmp p ++ otmp x
 | .bin _ x y | .binb _ x y | .max x y | .min x y | .ixa _ x y | .ixaA _ _ x y | .app _ _ _ _ x y | .appg _ _ _ _ x y | .appn _ _ _ _ x y => otmp x ++ otmp y
 | .mksl _ _ _ _ _ _ l c => otmp l ++ otmp c
 | .mksld _ _ _ _ _ _ l c => otmp l ++ otmp c
 | .mkslp _ _ _ _ _ _ l c => otmp l ++ otmp c
 | .slc x _ lo hi m => otmp x ++ ootmp lo ++ ootmp hi ++ ootmp m
 | .slcA x _ _ lo hi _ => otmp x ++ ootmp lo ++ ootmp hi
 | .build _ ps => otmps (ps.map (·.2.2))
 | .bsl _ _ _ xs | .bslg _ _ _ xs | .bslo _ _ _ xs | .bsln _ _ _ xs => otmps xs
 | .mkfn _ f c => otmps f ++ otmps c
 | .callf _ xs => otmps xs
 | .callv g xs => otmp g ++ otmps xs
 | .look _ _ _ _ m x | .mdel _ _ m x => otmp m ++ otmp x
 | .mput _ _ m x v => otmp m ++ otmp x ++ otmp v
 | .alloc .. | .mkmap .. | .dead => []
def mfoot (ρ : Operand -> AV) : MOp -> List Nat
 | .appn _ _ _ _ x y => match ρ x, ρ y with | .own _ j _, .own _ j2 _ => [j, j2] | _, _ => []
 | .bsln id _ _ _ => [id]
 | .load _ _ p => match ρ p with | .ptr id _ => [id] | .gptr id _ _ => [id] | _ => []
 | .store _ p _ => match ρ p with | .ptr id _ => [id] | .gptr id _ _ => [id] | _ => []
 | .appg id _ _ _ x _ => match ρ x with | .own _ j _ => [j] | .gow _ j _ => [j] | _ => [id]
 | .alloc id _ _ | .box id _ _ | .bsl id _ _ _ | .bslg id _ _ _ | .bslo id _ _ _ | .mksl id _ _ _ _ _ _ _ => [id]
 | .app id _ _ _ x _ => match ρ x with | .own _ j _ => [j] | .gow _ j _ => [j] | _ => [id]
 | _ => []
theorem appL_congr {k0 id t e bytes : Nat} {X : AV} {p : Option (Nat × List D)} {σ σ' : Nat -> Ob}
 (hf : ∀ i ∈ (match X with | .own _ j _ => [j] | .gow _ j _ => [j] | _ => [id]), σ' i = σ i) : appL σ' id t e bytes k0 X p = appL σ id t e bytes k0 X p := by
 unfold appL
 cases p with
 | none => rfl
 | some p =>
  simp only
  unfold appL2
  cases X with
  | own e' j xs => have hj := hf j (by simp); simp only [hj]
  | gow e' j n => have hj := hf j (by simp); simp only [hj]
  | d x1 =>
   have hj := hf id (by simp)
   cases x1 with
   | sl e1 nl xs => cases nl with
    | none => rfl
    | some b => cases b <;> cases xs <;> first | rfl | simp only [hj]
   | _ => rfl
  | _ => rfl
theorem vdel_congr {P : Program} {k0 : Nat} {m : MOp} {ρ ρ' : Operand -> AV} {σ σ' : Nat -> Ob} (hc : ∀ o : Operand, otmp o = [] -> ρ' o = ρ o) (hr : ∀ t ∈ mreads m, ρ' (.tmp t) = ρ (.tmp t))
 (hf : ∀ id ∈ mfoot ρ m, σ' id = σ id) : vdel P k0 ρ' σ' m = vdel P k0 ρ σ m := by
 have one' : ∀ o : Operand, (∀ t ∈ otmp o, ρ' (.tmp t) = ρ (.tmp t)) -> ρ' o = ρ o := fun o h => by
  cases o with
  | tmp t => exact h t (by simp [otmp])
  | _ => exact hc _ rfl
 have many : ∀ xs : List Operand, (∀ t ∈ otmps xs, ρ' (.tmp t) = ρ (.tmp t)) -> xs.map ρ' = xs.map ρ := fun xs h =>
  List.map_congr_left fun o ho => one' o fun t ht => h t (List.mem_flatMap.2 ⟨o, ho, ht⟩)
 have opt : ∀ (x : Option Operand) (d : Int), (∀ t ∈ ootmp x, ρ' (.tmp t) = ρ (.tmp t)) -> bndρ ρ' d x = bndρ ρ d x := fun x d h => by
  cases x with
  | none => rfl
  | some o => simp only [bndρ]; rw [one' o h]
 cases m with
 | mv x | nilc x | un _ x | conv _ x | fad _ x | fld _ _ _ x | len x | lens x | ext x _ | eqnil _ x => simp only [mreads] at hr; simp only [vdel]; rw [one' x hr]
 | boxi id d t x => rfl
 | box id t x => simp only [mreads] at hr; simp only [mfoot] at hf; simp only [vdel, boxL]; rw [one' x hr, hf id (by simp)]
 | pick c a b =>
  simp only [mreads, List.mem_append] at hr
  simp only [vdel]
  rw [one' c fun t h => hr t (.inl (.inl h)), one' a fun t h => hr t (.inl (.inr h)), one' b fun t h => hr t (.inr h)]
 | alloc id t z => simp only [mfoot] at hf; simp only [vdel]; rw [hf id (by simp)]
 | build z ps =>
  simp only [mreads] at hr
  simp only [vdel]
  have : ∀ (ps : List (Nat × Nat × Operand)) (cs : List AV), (∀ t ∈ otmps (ps.map (·.2.2)), ρ' (.tmp t) = ρ (.tmp t)) -> putPartsL ρ' cs ps = putPartsL ρ cs ps := by
   intro ps
   induction ps with
   | nil => intro cs _; rfl
   | cons p ps ih =>
    obtain ⟨off, n, x⟩ := p
    intro cs h
    simp only [List.map_cons, otmps, List.flatMap_cons, List.mem_append] at h
    simp only [putPartsL]
    rw [one' x fun t ht => h t (.inl ht)]
    cases (ρ x).cells with
    | none => rfl
    | some xs => simp only; split <;> first | exact ih _ (fun t ht => h t (.inr ht)) | rfl
  rw [this ps _ hr]
 | bsl id t e xs => simp only [mreads] at hr; simp only [mfoot] at hf; simp only [vdel, bslL]; rw [many xs hr, hf id (by simp)]
 | bslo id t e xs => rfl
 | bsln id t e xs => simp only [mreads] at hr; simp only [mfoot] at hf; simp only [vdel, bslnL]; rw [many xs hr, hf id (by simp)]
 | appn id t e bytes x y =>
  simp only [mreads, List.mem_append] at hr
  simp only [mfoot] at hf
  simp only [vdel]
  rw [one' x fun t ht => hr t (.inl ht), one' y fun t ht => hr t (.inr ht)]
  revert hf
  generalize ρ x = X
  generalize ρ y = Y
  intro hf
  unfold appnL
  split
  ·rename_i e' j xs e2 j2 ys
   rw [hf j (by simp), hf j2 (by simp)]
  ·rfl
 | bslg id t e xs => simp only [mreads] at hr; simp only [mfoot] at hf; simp only [vdel, bslgL]; rw [many xs hr, hf id (by simp)]
 | load n ag p =>
  simp only [mreads] at hr
  simp only [mfoot] at hf
  simp only [vdel]
  rw [one' p hr]
  unfold loadL
  cases hp : ρ p with
  | ptr id off => rw [hp] at hf; simp only; rw [hf id (by simp)]
  | gptr id kk off => rw [hp] at hf; simp only; rw [hf id (by simp)]
  | _ => rfl
 | store n p x =>
  simp only [mreads, List.mem_append] at hr
  simp only [mfoot] at hf
  simp only [vdel]
  rw [one' p fun t h => hr t (.inl h), one' x fun t h => hr t (.inr h)]
  unfold storeL
  cases hp : ρ p with
  | ptr id off => rw [hp] at hf; simp only; rw [hf id (by simp)]
  | gptr id kk off => rw [hp] at hf; simp only; rw [hf id (by simp)]
  | _ => rfl
 | bin _ x y | binb _ x y | max x y | min x y | ixa _ x y | ixaA _ _ x y =>
  simp only [mreads, List.mem_append] at hr
  simp only [vdel]
  rw [one' x fun t h => hr t (.inl h), one' y fun t h => hr t (.inr h)]
 | mkfn f first cap =>
  simp only [mreads, List.mem_append] at hr
  simp only [vdel]
  rw [many first fun t h => hr t (.inl h), many cap fun t h => hr t (.inr h)]
 | mkslp id t e bytes z tok l c => rfl
 | mksld id t e bytes z tok l c =>
  simp only [mreads, List.mem_append] at hr
  simp only [vdel]
  rw [one' l fun t h => hr t (.inl h), one' c fun t h => hr t (.inr h)]
 | mksl id t e bytes z tok l c =>
  simp only [mreads, List.mem_append] at hr
  simp only [mfoot] at hf
  simp only [vdel, mkslL]
  rw [one' l fun t h => hr t (.inl h), one' c fun t h => hr t (.inr h), hf id (by simp)]
 | ixs x i =>
  simp only [mreads, List.mem_append] at hr
  simp only [vdel]
  rw [one' x fun t h => hr t (.inl h), one' i fun t h => hr t (.inr h)]
 | sls x lo hi =>
  simp only [mreads, List.mem_append] at hr
  simp only [vdel]
  rw [one' x fun t h => hr t (.inl h)]
  cases ρ x with
  | d x1 => cases x1 with
   | lit u => cases u with
    | string a =>
     simp only [slsL]
     rw [opt lo 0 fun t h => hr t (.inr (.inl h)), opt hi _ fun t h => hr t (.inr (.inr h))]
    | _ => rfl
   | _ => rfl
  | _ => rfl
 | slc x e lo hi mx =>
  simp only [mreads, List.mem_append] at hr
  simp only [vdel]
  rw [one' x fun t h => hr t (.inl (.inl (.inl h)))]
  cases mx with
  | some m =>
   simp only [slcL]
   rw [one' m fun t h => hr t (.inr h)]
   cases hi with
   | none => rfl
   | some hh => simp only [hiL]; rw [one' hh fun t h => hr t (.inl (.inr h))]
  | none =>
   simp only [slcL]
   rw [opt lo 0 fun t h => hr t (.inl (.inl (.inr h)))]
   cases slK (ρ x) with
   | none => rfl
   | some p => simp only [slcL2]; rw [opt hi _ fun t h => hr t (.inl (.inr h))]
 | slcA x e n lo hi mx =>
  simp only [mreads, List.mem_append] at hr
  simp only [vdel, slcAL]
  rw [one' x fun t h => hr t (.inl (.inl h))]
  cases ρ x <;> cases lo <;> cases hi <;> cases mx <;> first
   | rfl
   | (rename_i q; simp only; rw [one' q fun t h => hr t (.inr h)])
 | app id t e bytes x y =>
  simp only [mreads, List.mem_append] at hr
  simp only [vdel]
  rw [one' x fun t h => hr t (.inl h), one' y fun t h => hr t (.inr h)]
  exact appL_congr hf
 | appg id t e bytes x y =>
  simp only [mreads, List.mem_append] at hr
  simp only [vdel]
  rw [one' x fun t h => hr t (.inl h), one' y fun t h => hr t (.inr h)]
  unfold appgL
  cases slK (ρ y) with
  | none => rfl
  | some p =>
   simp only
   have h0 : appL2 σ' id t e bytes k0 p.1 p.2 (ρ x) = appL2 σ id t e bytes k0 p.1 p.2 (ρ x) := appL_congr (p := some p) hf
   simp only [mfoot] at hf
   cases hx : ρ x with
   | d x1 =>
    rw [hx] at hf h0
    have hj := hf id (by simp)
    cases x1 with
    | sl e1 nl xs => cases nl with
     | none => exact h0
     | some b => cases b <;> cases xs <;> first | exact h0 | simp only [appgL2, hj]
    | _ => exact h0
   | _ => rw [hx] at h0; exact h0
 | callf f xs => simp only [mreads] at hr; simp only [vdel]; rw [many xs hr]
 | callv g xs =>
  simp only [mreads, List.mem_append] at hr
  simp only [vdel]
  rw [one' g fun t h => hr t (.inl h), many xs fun t h => hr t (.inr h)]
 | dead => rfl
 | mkmap _ _ | look _ _ _ _ _ _ | mput _ _ _ _ _ | mdel _ _ _ _ => rfl
def dlook : List (Nat × Ob) -> Nat -> Option Ob
 | [], _ => none
 | (i, ob) :: r, id => match dlook r id with
  | some x => some x
  | none => if id = i then some ob else none
theorem sat_sapp : ∀ (δ : List (Nat × Ob)) (s : Sto) (id : Nat), sat (sapp s δ) id = (dlook δ id).getD (sat s id)
 | [], _, _ => rfl
 | (i, ob) :: r, s, id => by
  rw [sapp, sat_sapp r, sat_sset, dlook]
  cases dlook r id with
  | some x => rfl
  | none => by_cases h : id = i <;> simp [h]
theorem dlook_mem : ∀ {δ : List (Nat × Ob)} {id : Nat}, (dlook δ id).isSome = true -> id ∈ δ.map (·.1)
 | [], _, h => by simp [dlook] at h
 | (i, ob) :: r, id, h => by
  simp only [dlook] at h
  cases hr : dlook r id with
  | some x => exact List.mem_cons_of_mem _ (dlook_mem (by rw [hr]; rfl))
  | none =>
   rw [hr] at h
   by_cases hi : id = i
   ·simp [hi]
   ·simp [hi] at h
def scσ (σ : Nat -> Ob) (pr mp : List (Nat × Nat)) : Sto := mp.map fun (c, j) => (c, (σ j).ren (inρ pr))
def obΔ (t : Sto) (all mp : List (Nat × Nat)) : List (Nat × Ob) := mp.map fun (c, j) => (j, (sat t c).ren (outρ all))
theorem sback_sapp {t : Sto} {all : List (Nat × Nat)} : ∀ {mp : List (Nat × Nat)} {s : Sto}, sback s t mp all = sapp s (obΔ t all mp)
 | [], _ => rfl
 | (c, j) :: r, s => by simp only [sback, obΔ, List.map_cons, sapp]; exact sback_sapp
def callP (P : Program) (k0 : Nat) (σ : Nat -> Ob) (f : Nat) (args : List AV) (K : AV -> List (Nat × Ob) -> List Nat -> Prop) : Prop :=
 (∃ dz : List D, EnvLe (args.map fun x => x.ren (inρ [])) (dz.map .d) /\ ((∃ r, PFun P f dz r /\ K (.d r) [] []) ∨ ∃ rs : List D, PFunN P f dz rs /\ K (.tup (rs.map .d)) [] [])) ∨
 ∃ (pr nw : List (Nat × Nat)) (y : AV) (t : Sto), pr.map (·.1) = List.range pr.length /\ ((pr ++ nw).map (·.1)).Nodup /\ ((pr ++ nw).map (·.2)).Nodup /\ (∀ p ∈ nw, σ p.2 = .dead /\ k0 <= p.2) /\
  ACalls P f (args.map fun x => x.ren (inρ pr)) (scσ σ pr pr) pr.length (fun x s' => x = y /\ s' = t) /\ K (y.ren (outρ (pr ++ nw))) (obΔ t (pr ++ nw) (pr ++ nw)) ((pr ++ nw).map (·.2))
def drun (P : Program) (k0 : Nat) (σ : Nat -> Ob) (R : AV -> List (Nat × Ob) -> List Nat -> Prop) : Del -> Prop
 | .ok x δ => R x δ []
 | .need p o => p /\ drun P k0 σ R o
 | .br b o1 o2 => if b = true then drun P k0 σ R o1 else drun P k0 σ R o2
 | .call f args => callP P k0 σ f args R
 | .bad => False
theorem drun_pin {P : Program} {k0 : Nat} {σ : Nat -> Ob} {R : AV -> List (Nat × Ob) -> List Nat -> Prop} : ∀ {o : Del}, drun P k0 σ R o ->
 ∃ x δ ex, drun P k0 σ (fun x' δ' e' => x' = x /\ δ' = δ /\ e' = ex) o /\ R x δ ex
 | .ok x δ, h => ⟨x, δ, [], ⟨rfl, rfl, rfl⟩, h⟩
 | .need p o, h => by obtain ⟨hp, h⟩ := h; obtain ⟨x, δ, ex, h1, h2⟩ := drun_pin h; exact ⟨x, δ, ex, ⟨hp, h1⟩, h2⟩
 | .br b o1 o2, h => by
  simp only [drun] at h ⊢
  split at h
  ·rename_i hb; obtain ⟨x, δ, ex, h1, h2⟩ := drun_pin h; exact ⟨x, δ, ex, by rw [if_pos hb]; exact h1, h2⟩
  ·rename_i hb; obtain ⟨x, δ, ex, h1, h2⟩ := drun_pin h; exact ⟨x, δ, ex, by rw [if_neg hb]; exact h1, h2⟩
 | .call f args, h => by
  rcases h with ⟨ds, h1, h | h⟩ | ⟨pr, nw, y, t, h1, h2, h3, h4, h5, h6⟩
  ·obtain ⟨r, h2, h3⟩ := h; exact ⟨_, _, _, .inl ⟨ds, h1, .inl ⟨r, h2, rfl, rfl, rfl⟩⟩, h3⟩
  ·obtain ⟨r, h2, h3⟩ := h; exact ⟨_, _, _, .inl ⟨ds, h1, .inr ⟨r, h2, rfl, rfl, rfl⟩⟩, h3⟩
  ·exact ⟨_, _, _, .inr ⟨pr, nw, y, t, h1, h2, h3, h4, h5, rfl, rfl, rfl⟩, h6⟩
 | .bad, h => h.elim
theorem drun_congr {P : Program} {k0 : Nat} {σ σ' : Nat -> Ob} {x : AV} {δ : List (Nat × Ob)} {ex : List Nat} (hs : ∀ id ∈ ex, σ' id = σ id) : ∀ {o : Del},
 drun P k0 σ (fun x' δ' e' => x' = x /\ δ' = δ /\ e' = ex) o -> drun P k0 σ' (fun x' δ' e' => x' = x /\ δ' = δ /\ e' = ex) o
 | .ok x δ, h => h
 | .need p o, h => ⟨h.1, drun_congr hs h.2⟩
 | .br b o1 o2, h => by
  simp only [drun] at h ⊢
  split at h
  ·rename_i hb; rw [if_pos hb]; exact drun_congr hs h
  ·rename_i hb; rw [if_neg hb]; exact drun_congr hs h
 | .call f args, h => by
  rcases h with h | ⟨pr, nw, y, t, h1, h2, h3, h4, h5, h6, h7, h8⟩
  ·exact .inl h
  ·subst h8
   refine .inr ⟨pr, nw, y, t, h1, h2, h3, fun p hp => ?_, ?_, h6, h7, rfl⟩
   ·rw [hs p.2 (List.mem_map.2 ⟨p, List.mem_append_right _ hp, rfl⟩)]; exact h4 p hp
   ·have : scσ σ' pr pr = scσ σ pr pr := List.map_congr_left fun p hp => by
     show (p.1, (σ' p.2).ren (inρ pr)) = (p.1, (σ p.2).ren (inρ pr))
     rw [hs p.2 (List.mem_map.2 ⟨p, List.mem_append_left _ hp, rfl⟩)]
    rw [this]; exact h5
 | .bad, h => h.elim
theorem drun_runK {P : Program} {k0 : Nat} {R : AV -> List (Nat × Ob) -> List Nat -> Prop} {K : AV -> List AV -> Sto -> Prop} {env : List AV} {s : Sto}
 (hK : ∀ x δ ex, R x δ ex -> K x env (sapp s δ)) : ∀ {o : Del}, drun P k0 (sat s) R o -> runK P k0 K (o.out env s)
 | .ok x δ, h => hK x δ _ h
 | .need p o, h => ⟨h.1, drun_runK hK h.2⟩
 | .br b o1 o2, h => by
  simp only [drun] at h
  simp only [Del.out, runK]
  split at h
  ·rename_i hb; rw [if_pos hb]; exact drun_runK hK h
  ·rename_i hb; rw [if_neg hb]; exact drun_runK hK h
 | .call f args, h => by
  rcases h with ⟨ds, h1, h | h⟩ | ⟨pr, nw, y, t, h1, h2, h3, h4, h5, h6⟩
  ·obtain ⟨r, h2, h3⟩ := h; exact callK_S (callK_le h1 h2 (hK _ _ _ h3))
  ·obtain ⟨r, h2, h3⟩ := h; exact callK_S (callK_leN h1 h2 (hK _ _ _ h3))
  ·refine callK_S ⟨pr, nw, _, h1, h2, h3, h4, h5, ?_⟩
   rintro x s' ⟨rfl, rfl⟩
   rw [sback_sapp]
   exact hK _ _ _ h6
 | .bad, h => h.elim
def gd (m : MOper) (env : List AV) : Option Bool := match m.guard with
 | none => some true
 | some (none, _) => none
 | some (some d, want) => match env.getD d .junk with
  | .d (.lit (.bool b)) => some (b == want)
  | .tup [] => some false
  | _ => none
def vdr (P : Program) (k0 : Nat) (F : List (List Nat × List Nat) -> List AV -> Sto -> Prop) : List MOper -> List (List Nat × List Nat) -> List AV -> Sto -> Prop
 | [], acc, env, s => F acc env s
 | m :: ms, acc, env, s => match gd m env with
  | none => False
  | some true => drun P k0 (sat s) (fun x δ ex => vdr P k0 F ms ((ex ++ mfoot (ev env) m.op, δ.map (·.1)) :: acc) (setD m.dst env x) (sapp s δ)) (vdel P k0 (ev env) (sat s) m.op)
  | some false => vdr P k0 F ms (([], []) :: acc) (setD m.dst env (.tup [])) s
def StepF (P : Program) (k0 : Nat) (m : MOper) (env : List AV) (s : Sto) (x : AV) (δ : List (Nat × Ob)) (ft : List Nat × List Nat) : Prop :=
 (gd m env = some true /\ ∃ ex, drun P k0 (sat s) (fun x' δ' e' => x' = x /\ δ' = δ /\ e' = ex) (vdel P k0 (ev env) (sat s) m.op) /\ ft = (ex ++ mfoot (ev env) m.op, δ.map (·.1))) ∨
 (gd m env = some false /\ x = .tup [] /\ δ = [] /\ ft = ([], []))
def Chn (P : Program) (k0 : Nat) (F : List (List Nat × List Nat) -> List AV -> Sto -> Prop) (ms : List MOper) (acc : List (List Nat × List Nat)) (env : List AV) (s : Sto) : Prop :=
 ∃ (x : Nat -> AV) (δ : Nat -> List (Nat × Ob)) (ft : Nat -> List Nat × List Nat) (E : Nat -> List AV) (S : Nat -> Sto), E 0 = env /\ S 0 = s /\
  (∀ i m, ms[i]? = some m -> StepF P k0 m (E i) (S i) (x i) (δ i) (ft i) /\ E (i + 1) = setD m.dst (E i) (x i) /\ S (i + 1) = sapp (S i) (δ i)) /\
  F (((List.range ms.length).map ft).reverse ++ acc) (E ms.length) (S ms.length)
theorem Chn.cons {P : Program} {k0 : Nat} {F : List (List Nat × List Nat) -> List AV -> Sto -> Prop} {m : MOper} {ms : List MOper} {acc : List (List Nat × List Nat)} {env : List AV} {s : Sto}
 {x0 : AV} {δ0 : List (Nat × Ob)} {f0 : List Nat × List Nat} (hs : StepF P k0 m env s x0 δ0 f0) (h : Chn P k0 F ms (f0 :: acc) (setD m.dst env x0) (sapp s δ0)) : Chn P k0 F (m :: ms) acc env s := by
 obtain ⟨x, δ, ft, E, S, hE, hS, h1, h2⟩ := h
 refine ⟨fun i => Nat.casesOn i x0 x, fun i => Nat.casesOn i δ0 δ, fun i => Nat.casesOn i f0 ft, fun i => Nat.casesOn i env E, fun i => Nat.casesOn i s S, rfl, rfl, fun i m' hi => ?_, ?_⟩
 ·cases i with
  | zero =>
   simp only [List.getElem?_cons_zero, Option.some.injEq] at hi
   subst hi
   exact ⟨hs, hE, hS⟩
  | succ i => exact h1 i m' (by simpa using hi)
 ·have : ((List.range (m :: ms).length).map fun i => (Nat.casesOn i f0 ft : List Nat × List Nat)).reverse ++ acc = ((List.range ms.length).map ft).reverse ++ (f0 :: acc) := by
   rw [List.length_cons, List.range_succ_eq_map, List.map_cons, List.map_map, List.reverse_cons, List.append_assoc]
   rfl
  rw [this]
  exact h2
theorem vdr_chain {P : Program} {k0 : Nat} {F : List (List Nat × List Nat) -> List AV -> Sto -> Prop} : ∀ {ms : List MOper} {acc : List (List Nat × List Nat)} {env : List AV} {s : Sto},
 vdr P k0 F ms acc env s -> Chn P k0 F ms acc env s
 | [], acc, env, s, h => ⟨fun _ => .junk, fun _ => [], fun _ => ([], []), fun _ => env, fun _ => s, rfl, rfl, fun i m hi => by simp at hi, h⟩
 | m :: ms, acc, env, s, h => by
  simp only [vdr] at h
  split at h
  ·exact h.elim
  ·rename_i hg
   obtain ⟨x0, δ0, ex, h1, h2⟩ := drun_pin h
   exact Chn.cons (.inl ⟨hg, ex, h1, rfl⟩) (vdr_chain h2)
  ·rename_i hg
   exact Chn.cons (x0 := .tup []) (δ0 := []) (.inr ⟨hg, rfl, rfl, rfl⟩) (vdr_chain h)
def gl {β : Type} (f : Nat -> Option β) (L : Nat -> Bool) (b : β) : Nat -> β
 | 0 => b
 | n + 1 => if L n = true then (f n).getD (gl f L b n) else gl f L b n
theorem gl_congr {β : Type} {f : Nat -> Option β} {L L' : Nat -> Bool} {b : β} : ∀ {n : Nat}, (∀ j, j < n -> (f j).isSome = true -> L j = L' j) -> gl f L b n = gl f L' b n
 | 0, _ => rfl
 | n + 1, h => by
  have ih := gl_congr (b := b) (n := n) fun j hj => h j (by omega)
  simp only [gl]
  rw [ih]
  cases hf : f n with
  | none => simp
  | some v => rw [h n (by omega) (by rw [hf]; rfl)]
theorem gl_put {β : Type} {f : Nat -> Option β} {L : Nat -> Bool} {b v : β} {i : Nat} (hf : f i = some v) (hL : L i = true) :
 ∀ {n : Nat}, i < n -> (∀ j, i < j -> j < n -> (f j).isSome = true -> L j = false) -> gl f L b n = v
 | 0, hi, _ => by omega
 | n + 1, hi, h => by
  simp only [gl]
  by_cases hin : i = n
  ·subst hin; rw [if_pos hL, hf]; rfl
  ·have ih := gl_put (b := b) hf hL (n := n) (by omega) fun j h1 h2 => h j h1 (by omega)
   cases hn : f n with
   | none => simp [ih]
   | some u => rw [h n (by omega) (by omega) (by rw [hn]; rfl)]; simpa using ih
theorem gl_prefix {β : Type} {f : Nat -> Option β} {b : β} {i : Nat} : ∀ {n : Nat}, i <= n -> gl f (fun j => decide (j < i)) b n = gl f (fun _ => true) b i
 | 0, h => by
  have : i = 0 := by omega
  subst this; rfl
 | n + 1, h => by
  by_cases hi : i = n + 1
  ·subst hi; exact gl_congr fun j hj _ => by simp [hj]
  ·simp only [gl]
   rw [if_neg (by simp; omega)]
   exact gl_prefix (by omega)
def rdM (m : MOper) : List Nat := mreads m.op ++ (match m.guard with | some (some g, _) => [g] | _ => [])
def hits (xs ys : List Nat) : Bool := xs.any fun x => ys.contains x
def confl (m m' : MOper) (f f' : List Nat × List Nat) : Bool :=
 hits m'.dst.toList (rdM m) || hits m.dst.toList (rdM m') || hits m.dst.toList m'.dst.toList || hits f.2 f'.1 || hits f'.2 f.1 || hits f.2 f'.2
def clos (after : List (List Nat)) : List (List Nat) := after.foldl (fun T a => T ++ [(a ++ a.flatMap fun e => T.getD e []).eraseDups]) []
def closedOk (after B : List (List Nat)) : Bool :=
 ((List.range after.length).all fun i => (after.getD i []).all fun e => decide (e < i)) &&
 (List.range B.length).all fun i => (B.getD i []).all fun j => (after.getD i []).contains j || (after.getD i []).any fun e => decide (e < i) && (B.getD e []).contains j
def ordOk (ms : List MOper) (B : List (List Nat)) (fts : List (List Nat × List Nat)) : Bool :=
 (List.range ms.length).all fun i => (List.range i).all fun j => match ms[i]?, ms[j]? with
  | some m, some m' => !confl m m' (fts.getD i ([], [])) (fts.getD j ([], [])) || (B.getD i []).contains j
  | _, _ => false
def drawOk (ms : List MOper) (after : List (List Nat)) (fts : List (List Nat × List Nat)) : Bool := closedOk after (clos after) && ordOk ms (clos after) fts
theorem closed_spec {after B : List (List Nat)} (h : closedOk after B = true) {L : Nat -> Bool} (hL : ∀ i, L i = true -> ∀ e ∈ after.getD i [], L e = true) :
 ∀ (i : Nat), (∀ e ∈ after.getD i [], L e = true) -> ∀ j ∈ B.getD i [], L j = true := by
 simp only [closedOk, Bool.and_eq_true, List.all_eq_true, List.mem_range, Bool.or_eq_true, List.any_eq_true, decide_eq_true_eq, List.contains_iff_mem] at h
 intro i
 induction i using Nat.strongRecOn with
 | ind i ih =>
  intro ha j hj
  have hi : i < B.length := by
   rcases Nat.lt_or_ge i B.length with h' | h'
   ·exact h'
   ·rw [List.getD_eq_getElem?_getD, List.getElem?_eq_none h'] at hj; simp at hj
  rcases h.2 i hi j hj with h1 | ⟨e, he, hlt, hje⟩
  ·exact ha j h1
  ·exact ih e hlt (hL e (ha e he)) j hje
def unl (L : Nat -> Bool) : Nat -> Nat
 | 0 => 0
 | n + 1 => unl L n + (match L n with | true => 0 | false => 1)
theorem unl_set {L L' : Nat -> Bool} {i : Nat} (h1 : L i = false) (h2 : L' i = true) (h : ∀ j, j ≠ i -> L' j = L j) : ∀ {n : Nat}, (n <= i -> unl L' n = unl L n) /\ (i < n -> unl L' n + 1 = unl L n)
 | 0 => ⟨fun _ => rfl, fun h => by omega⟩
 | n + 1 => by
  obtain ⟨ih1, ih2⟩ := unl_set (n := n) h1 h2 h
  refine ⟨fun hn => ?_, fun hn => ?_⟩
  ·simp only [unl]; rw [ih1 (by omega), h n (by omega)]
  ·simp only [unl]
   by_cases hin : n = i
   ·subst hin; rw [ih1 (by omega), h1, h2]; simp
   ·rw [h n hin]; have := ih2 (by omega); omega
theorem unl_zero {L : Nat -> Bool} : ∀ {n : Nat}, unl L n = 0 -> ∀ j, j < n -> L j = true
 | 0, _, j, hj => by omega
 | n + 1, h, j, hj => by
  simp only [unl] at h
  by_cases hn : j = n
  ·subst hn; cases hL : L j with
   | true => rfl
   | false => rw [hL] at h; simp at h
  ·exact unl_zero (n := n) (by omega) j (by omega)
def fs (d : Nat -> Option Nat) (x : Nat -> AV) (t : Nat) (j : Nat) : Option AV := if d j = some t then some (x j) else none
theorem getD_setD {d : Option Nat} {env : List AV} {x : AV} {t : Nat} (ht : t < env.length) : (setD d env x).getD t .junk = if d = some t then x else env.getD t .junk := by
 cases d with
 | none => simp [setD]
 | some d =>
  simp only [setD, List.getD_eq_getElem?_getD, List.getElem?_set, Option.some.injEq]
  by_cases h : d = t
  ·subst h; simp [ht]
  ·simp [h]
theorem length_setD {d : Option Nat} {env : List AV} {x : AV} : (setD d env x).length = env.length := by cases d <;> simp [setD]
structure Drawn (P : Program) (k0 : Nat) (ms : List MOper) (after : List (List Nat)) (x : Nat -> AV) (δ : Nat -> List (Nat × Ob)) (ft : Nat -> List Nat × List Nat)
 (E : Nat -> List AV) (S : Nat -> Sto) : Prop where
 step : ∀ i m, ms[i]? = some m -> StepF P k0 m (E i) (S i) (x i) (δ i) (ft i) /\ E (i + 1) = setD m.dst (E i) (x i) /\ S (i + 1) = sapp (S i) (δ i)
 ok : drawOk ms after ((List.range ms.length).map ft) = true
def dstOf (ms : List MOper) (j : Nat) : Option Nat := (ms[j]?).bind (·.dst)
section
variable {P : Program} {k0 : Nat} {ms : List MOper} {after : List (List Nat)} {x : Nat -> AV} {δ : Nat -> List (Nat × Ob)} {ft : Nat -> List Nat × List Nat}
 {E : Nat -> List AV} {S : Nat -> Sto}
theorem Drawn.len (h : Drawn P k0 ms after x δ ft E S) : ∀ {i : Nat}, i <= ms.length -> (E i).length = (E 0).length
 | 0, _ => rfl
 | i + 1, hi => by
  have hm : ms[i]? = some ms[i] := List.getElem?_eq_getElem (by omega)
  rw [(h.step i _ hm).2.1, length_setD, h.len (by omega)]
theorem Drawn.slot (h : Drawn P k0 ms after x δ ft E S) {t : Nat} (ht : t < (E 0).length) : ∀ {i : Nat}, i <= ms.length ->
 (E i).getD t .junk = gl (fs (dstOf ms) x t) (fun _ => true) ((E 0).getD t .junk) i
 | 0, _ => rfl
 | i + 1, hi => by
  have hm : ms[i]? = some ms[i] := List.getElem?_eq_getElem (by omega)
  rw [(h.step i _ hm).2.1, getD_setD (by rw [h.len (by omega)]; exact ht), h.slot ht (by omega)]
  simp only [gl, if_true, fs, dstOf, hm, Option.bind_some]
  split <;> rfl
theorem Drawn.obj (h : Drawn P k0 ms after x δ ft E S) (id : Nat) : ∀ {i : Nat}, i <= ms.length ->
 sat (S i) id = gl (fun j => dlook (δ j) id) (fun _ => true) (sat (S 0) id) i
 | 0, _ => rfl
 | i + 1, hi => by
  have hm : ms[i]? = some ms[i] := List.getElem?_eq_getElem (by omega)
  rw [(h.step i _ hm).2.2, sat_sapp, h.obj id (by omega)]
  simp only [gl, if_true]
structure Been (E : Nat -> List AV) (S : Nat -> Sto) (ms : List MOper) (x : Nat -> AV) (δ : Nat -> List (Nat × Ob)) (L : Nat -> Bool) (env : List AV) (s : Sto) : Prop where
 len : env.length = (E 0).length
 slot : ∀ t, t < (E 0).length -> env.getD t .junk = gl (fs (dstOf ms) x t) L ((E 0).getD t .junk) ms.length
 obj : ∀ id, sat s id = gl (fun j => dlook (δ j) id) L (sat (S 0) id) ms.length
theorem Drawn.ord (h : Drawn P k0 ms after x δ ft E S) {i j : Nat} {m m' : MOper} (hi : ms[i]? = some m) (hj : ms[j]? = some m') (hji : j < i)
 (hc : confl m m' (ft i) (ft j) = true) : j ∈ (clos after).getD i [] := by
 have hl : i < ms.length := (List.getElem?_eq_some_iff.1 hi).1
 have := h.ok
 simp only [drawOk, Bool.and_eq_true, ordOk, List.all_eq_true, List.mem_range] at this
 have := this.2 i hl j hji
 rw [hi, hj] at this
 have e1 : ((List.range ms.length).map ft).getD i ([], []) = ft i := by simp [List.getD_eq_getElem?_getD, hl]
 have e2 : ((List.range ms.length).map ft).getD j ([], []) = ft j := by simp [List.getD_eq_getElem?_getD, show j < ms.length by omega]
 rw [e1, e2] at this
 simpa [hc] using this
theorem Drawn.before (h : Drawn P k0 ms after x δ ft E S) {L : Nat -> Bool} (hL : ∀ i, L i = true -> ∀ e ∈ after.getD i [], L e = true) {i : Nat} {m : MOper} (hi : ms[i]? = some m)
 (hu : L i = false) (hr : ∀ e ∈ after.getD i [], L e = true) {j : Nat} {m' : MOper} (hj : ms[j]? = some m') (hne : j ≠ i) (hc : confl m m' (ft i) (ft j) = true /\ confl m' m (ft j) (ft i) = true) :
 L j = decide (j < i) := by
 have hcl := h.ok
 simp only [drawOk, Bool.and_eq_true] at hcl
 rcases Nat.lt_or_ge j i with hlt | hge
 ·rw [closed_spec hcl.1 hL i hr j (h.ord hi hj hlt hc.1)]; simp [hlt]
 ·have hlt : i < j := by omega
  have hb := h.ord hj hi hlt hc.2
  cases hLj : L j with
  | false => simp; omega
  | true =>
   have := closed_spec hcl.1 hL j (hL j hLj) i hb
   rw [hu] at this
   cases this
theorem hits_of {xs ys : List Nat} {a : Nat} (h1 : a ∈ xs) (h2 : a ∈ ys) : hits xs ys = true := List.any_eq_true.2 ⟨a, h1, by simpa using h2⟩
theorem dst_of {j t : Nat} (h : (fs (dstOf ms) x t j).isSome = true) : ∃ m', ms[j]? = some m' /\ m'.dst = some t := by
 unfold fs at h
 split at h
 ·rename_i hd
  unfold dstOf at hd
  cases hm : ms[j]? with
  | none => rw [hm] at hd; cases hd
  | some m' => rw [hm] at hd; exact ⟨m', rfl, hd⟩
 ·cases h
theorem Drawn.write (h : Drawn P k0 ms after x δ ft E S) {j id : Nat} {m' : MOper} (hj : ms[j]? = some m') (hw : (dlook (δ j) id).isSome = true) : id ∈ (ft j).2 := by
 have := (h.step j m' hj).1
 rcases this with ⟨_, _, _, h3⟩ | ⟨_, _, h3, _⟩
 ·rw [h3]; exact dlook_mem hw
 ·rw [h3] at hw; cases hw
theorem Drawn.reads (h : Drawn P k0 ms after x δ ft E S) {L : Nat -> Bool} (hL : ∀ i, L i = true -> ∀ e ∈ after.getD i [], L e = true) {i : Nat} {m : MOper} (hi : ms[i]? = some m)
 (hu : L i = false) (hr : ∀ e ∈ after.getD i [], L e = true) {env : List AV} {s : Sto} (hb : Been E S ms x δ L env s) {t : Nat} (ht : t ∈ rdM m) : env.getD t .junk = (E i).getD t .junk := by
 have hil : i < ms.length := (List.getElem?_eq_some_iff.1 hi).1
 by_cases hlt : t < (E 0).length
 ·rw [hb.slot t hlt, h.slot hlt (i := i) (by omega), <- gl_prefix (Nat.le_of_lt hil)]
  refine gl_congr fun j hj hs => ?_
  by_cases hne : j = i
  ·subst hne; rw [hu]; simp
  ·obtain ⟨m', hm', hd⟩ := dst_of hs
   refine h.before hL hi hu hr hm' hne ?_
   have : hits m'.dst.toList (rdM m) = true := hits_of (a := t) (by rw [hd]; simp) ht
   simp [confl, this]
 ·have e1 : env.getD t .junk = .junk := by rw [List.getD_eq_getElem?_getD, List.getElem?_eq_none (by rw [hb.len]; omega)]; rfl
  have e2 : (E i).getD t .junk = .junk := by rw [List.getD_eq_getElem?_getD, List.getElem?_eq_none (by rw [h.len (by omega)]; omega)]; rfl
  rw [e1, e2]
theorem Drawn.looks (h : Drawn P k0 ms after x δ ft E S) {L : Nat -> Bool} (hL : ∀ i, L i = true -> ∀ e ∈ after.getD i [], L e = true) {i : Nat} {m : MOper} (hi : ms[i]? = some m)
 (hu : L i = false) (hr : ∀ e ∈ after.getD i [], L e = true) {env : List AV} {s : Sto} (hb : Been E S ms x δ L env s) {id : Nat} (hid : id ∈ (ft i).1) : sat s id = sat (S i) id := by
 have hil : i < ms.length := (List.getElem?_eq_some_iff.1 hi).1
 rw [hb.obj id, h.obj id (i := i) (by omega), <- gl_prefix (Nat.le_of_lt hil)]
 refine gl_congr fun j hj hs => ?_
 by_cases hne : j = i
 ·subst hne; rw [hu]; simp
 ·have hm' : ms[j]? = some ms[j] := List.getElem?_eq_getElem hj
  refine h.before hL hi hu hr hm' hne ?_
  have : hits (ft j).2 (ft i).1 = true := hits_of (a := id) (h.write hm' hs) hid
  simp [confl, this]
theorem Drawn.next (h : Drawn P k0 ms after x δ ft E S) {L L' : Nat -> Bool} (hL : ∀ i, L i = true -> ∀ e ∈ after.getD i [], L e = true) {i : Nat} {m : MOper} (hi : ms[i]? = some m)
 (hu : L i = false) (hr : ∀ e ∈ after.getD i [], L e = true) (hi' : L' i = true) (hn : ∀ j, j ≠ i -> L' j = L j) {env : List AV} {s : Sto} (hb : Been E S ms x δ L env s) :
 Been E S ms x δ L' (setD m.dst env (x i)) (sapp s (δ i)) := by
 have hil : i < ms.length := (List.getElem?_eq_some_iff.1 hi).1
 refine ⟨by rw [length_setD, hb.len], fun t ht => ?_, fun id => ?_⟩
 ·rw [getD_setD (by rw [hb.len]; exact ht)]
  split
  ·rename_i hd
   refine (gl_put (i := i) (by simp [fs, dstOf, hi, hd]) hi' hil fun j hij hj hs => ?_).symm
   obtain ⟨m', hm', hd'⟩ := dst_of hs
   have : hits m.dst.toList m'.dst.toList = true := hits_of (a := t) (by rw [hd]; simp) (by rw [hd']; simp)
   have this' : hits m'.dst.toList m.dst.toList = true := hits_of (a := t) (by rw [hd']; simp) (by rw [hd]; simp)
   rw [hn j (by omega), h.before hL hi hu hr hm' (by omega) (by simp [confl, this, this'])]
   simp; omega
  ·rename_i hd
   rw [hb.slot t ht]
   refine gl_congr fun j hj hs => ?_
   by_cases hne : j = i
   ·subst hne
    obtain ⟨m', hm', hd'⟩ := dst_of hs
    rw [hi] at hm'; cases hm'
    exact absurd hd' hd
   ·rw [hn j hne]
 ·rw [sat_sapp]
  cases hd : dlook (δ i) id with
  | some ob =>
   refine (gl_put (i := i) hd hi' hil fun j hij hj hs => ?_).symm
   have hm' : ms[j]? = some ms[j] := List.getElem?_eq_getElem hj
   have a1 := h.write hm' hs
   have a2 := h.write hi (by rw [hd]; rfl : (dlook (δ i) id).isSome = true)
   have : hits (ft i).2 (ft j).2 = true := hits_of a2 a1
   have this' : hits (ft j).2 (ft i).2 = true := hits_of a1 a2
   rw [hn j (by omega), h.before hL hi hu hr hm' (by omega) (by simp [confl, this, this'])]
   simp; omega
  | none =>
   simp only [Option.getD_none]
   rw [hb.obj id]
   refine gl_congr fun j hj hs => ?_
   by_cases hne : j = i
   ·subst hne; rw [hd] at hs; cases hs
   ·rw [hn j hne]
theorem Drawn.run (h : Drawn P k0 ms after x δ ft E S) {L : Nat -> Bool} (hL : ∀ i, L i = true -> ∀ e ∈ after.getD i [], L e = true) {i : Nat} {m : MOper} (hi : ms[i]? = some m)
 (hu : L i = false) (hr : ∀ e ∈ after.getD i [], L e = true) {env : List AV} {s : Sto} (hb : Been E S ms x δ L env s) :
 match m.guard with
  | none => vop P k0 m.op env s fun x' env' s' => setD m.dst env' x' = setD m.dst env (x i) /\ s' = sapp s (δ i)
  | some (g, want) => match g with
   | none => setD m.dst env (.tup []) = setD m.dst env (x i) /\ s = sapp s (δ i)
   | some d => match env.getD d .junk with
    | .d (.lit (.bool b)) => Br b want (vop P k0 m.op env s fun x' env' s' => setD m.dst env' x' = setD m.dst env (x i) /\ s' = sapp s (δ i)) (setD m.dst env (.tup []) = setD m.dst env (x i) /\ s = sapp s (δ i))
    | .tup [] => setD m.dst env (.tup []) = setD m.dst env (x i) /\ s = sapp s (δ i)
    | _ => False := by
 have hs := (h.step i m hi).1
 have run : (∃ ex, drun P k0 (sat (S i)) (fun x' δ' e' => x' = x i /\ δ' = δ i /\ e' = ex) (vdel P k0 (ev (E i)) (sat (S i)) m.op) /\ ft i = (ex ++ mfoot (ev (E i)) m.op, (δ i).map (·.1))) ->
  vop P k0 m.op env s fun x' env' s' => setD m.dst env' x' = setD m.dst env (x i) /\ s' = sapp s (δ i) := fun ⟨ex, hd, hf⟩ => by
  have hc : vdel P k0 (ev env) (sat s) m.op = vdel P k0 (ev (E i)) (sat (S i)) m.op := by
   refine vdel_congr (fun o ho => ?_) (fun t ht => ?_) (fun id hid => ?_)
   ·cases o with
    | tmp t => simp [otmp] at ho
    | _ => rfl
   ·simpa only [ev] using h.reads hL hi hu hr hb (t := t) (List.mem_append_left _ ht)
   ·exact h.looks hL hi hu hr hb (by rw [hf]; exact List.mem_append_right _ hid)
  rw [<- hc] at hd
  replace hd := drun_congr (σ' := sat s) (fun id hid => h.looks hL hi hu hr hb (by rw [hf]; exact List.mem_append_left _ hid)) hd
  exact vout_vop (vdel_vout (drun_runK (K := fun x' env' s' => setD m.dst env' x' = setD m.dst env (x i) /\ s' = sapp s (δ i)) (fun x' δ' e' hx => by
   obtain ⟨rfl, rfl, _⟩ := hx
   exact ⟨rfl, rfl⟩) hd))
 cases hg : m.guard with
 | none =>
  rcases hs with ⟨_, h2⟩ | ⟨h1, _⟩
  ·exact run h2
  ·simp [gd, hg] at h1
 | some p =>
  obtain ⟨g, want⟩ := p
  cases g with
  | none => rcases hs with ⟨h1, _⟩ | ⟨h1, _⟩ <;> simp [gd, hg] at h1
  | some d =>
   have he : env.getD d .junk = (E i).getD d .junk := h.reads hL hi hu hr hb (by simp [rdM, hg])
   simp only
   rw [he]
   have hgd : gd m (E i) = (match (E i).getD d .junk with | .d (.lit (.bool b)) => some (b == want) | .tup [] => some false | _ => none) := by simp only [gd, hg]
   rcases hs with ⟨h1, h2⟩ | ⟨h1, h2, h3, _⟩
   ·rw [hgd] at h1
    split at h1
    ·rename_i b hb'
     simp only [Option.some.injEq, beq_iff_eq] at h1
     simp only [Br, if_pos h1]
     exact run h2
    ·cases h1
    ·cases h1
   ·rw [hgd] at h1
    split at h1
    ·rename_i b hb'
     simp only [Option.some.injEq, beq_eq_false_iff_ne, ne_eq] at h1
     simp only [Br, if_neg h1]
     rw [h2, h3]
     exact ⟨rfl, rfl⟩
    ·rw [h2, h3]
     exact ⟨rfl, rfl⟩
    ·cases h1
end
theorem mini_draw {P : Program} {c : Code} {ms : List MOper} {after : List (List Nat)} (h : mini P c = some (.draw ms after)) :
 ∃ id ops, c = .region id ops true /\ ops.toList.mapM (miniOper P ops) = some ms /\ after = ops.toList.map fun o => (o.after.toList.filter (Region.binds .any)).map (·.on) := by
 cases c <;> simp [mini, Option.bind_eq_some_iff, Option.map_eq_some_iff] at h ⊢
 case region id' ops' d' =>
  obtain ⟨ms', h1, h⟩ := h
  split at h
  ·rename_i hd
   simp only [MCode.draw.injEq] at h
   obtain ⟨rfl, rfl⟩ := h
   exact ⟨id', ops', ⟨rfl, rfl, hd⟩, h1, rfl⟩
  ·cases h
theorem mapM_get {α β : Type} {f : α -> Option β} : ∀ {xs : List α} {ys : List β}, xs.mapM f = some ys -> ys.length = xs.length /\ ∀ (i : Nat) (x : α), xs[i]? = some x -> ∃ y, ys[i]? = some y /\ f x = some y
 | [], ys, h => by simp at h; subst h; simp
 | x :: xs, ys, h => by
  simp only [List.mapM_cons, Option.bind_eq_bind, Option.bind_eq_some_iff] at h
  obtain ⟨y, h1, ys', h2, h3⟩ := h
  cases h3
  obtain ⟨e1, e2⟩ := mapM_get h2
  refine ⟨by simp [e1], fun i u hu => ?_⟩
  cases i with
  | zero => simp at hu; subst hu; exact ⟨y, rfl, h1⟩
  | succ i => simpa using e2 i u (by simpa using hu)
theorem Been.env {E : Nat -> List AV} {S : Nat -> Sto} {ms : List MOper} {x : Nat -> AV} {δ : Nat -> List (Nat × Ob)} {L L' : Nat -> Bool} {env : List AV} {s : Sto}
 (h : Been E S ms x δ L env s) (hL : ∀ j, j < ms.length -> L j = L' j) : Been E S ms x δ L' env s :=
 ⟨h.len, fun t ht => by rw [h.slot t ht]; exact gl_congr fun j hj _ => hL j hj, fun id => by rw [h.obj id]; exact gl_congr fun j hj _ => hL j hj⟩
theorem drawn_sound {P : Program} {C : Ctx} {ops : Array Oper} {Q : Post} {ms : List MOper} {after : List (List Nat)} {x : Nat -> AV} {δ : Nat -> List (Nat × Ob)} {ft : Nat -> List Nat × List Nat}
 {E : Nat -> List AV} {S : Nat -> Sto} (hm : ops.toList.mapM (miniOper P ops) = some (ms.map MOper.erase)) (ha : after = ops.toList.map fun o => (o.after.toList.filter (Region.binds .any)).map (·.on))
 (h : Drawn P C.k ms after x δ ft E S) (hQ : Q .normal (E ms.length) (S ms.length)) :
 ∀ (fuel : Nat) (listed : Array Bool) (env : List AV) (s : Sto) (β : Beta) (a : Act) (w : World), listed.size = ops.size -> unl (fun j => listed.getD j false) ops.size <= fuel ->
  (∀ i, listed.getD i false = true -> ∀ e ∈ after.getD i [], listed.getD e false = true) -> Been E S ms x δ (fun j => listed.getD j false) env s -> St C β env s a w ->
  wpAnyIn C.fence 0 P .any ops (fun e a' w' => ∃ C', Ext C C' /\ ∃ β' env' s', St C' β' env' s' a' w' /\ Q e env' s') fuel listed a w := by
 obtain ⟨hlen, hget⟩ := mapM_get hm
 rw [List.length_map] at hlen
 have hsz : ms.length = ops.size := by rw [hlen]; simp
 have haf : ∀ i o, ops[i]? = some o -> after.getD i [] = (o.after.toList.filter (Region.binds .any)).map (·.on) := fun i o ho => by
  rw [ha, List.getD_eq_getElem?_getD, List.getElem?_map, Array.getElem?_toList, ho]; rfl
 have hback : ∀ i, ∀ e ∈ after.getD i [], e < i := fun i e he => by
  have hc := h.ok
  simp only [drawOk, closedOk, Bool.and_eq_true, List.all_eq_true, List.mem_range, decide_eq_true_eq] at hc
  have hi : i < after.length := by
   rcases Nat.lt_or_ge i after.length with h' | h'
   ·exact h'
   ·rw [List.getD_eq_getElem?_getD, List.getElem?_eq_none h'] at he; simp at he
  exact hc.1.1 i hi e he
 have isReady : ∀ {listed : Array Bool}, listed.size = ops.size -> ∀ {i : Nat}, i < ops.size -> listed.getD i false = false -> (∀ e ∈ after.getD i [], listed.getD e false = true) ->
  i ∈ Region.ready .any ops listed := fun {listed} hs {i} hi hu hr => by
  rw [mem_ready]
  have ho : ops[i]? = some ops[i] := Array.getElem?_eq_getElem hi
  refine ⟨?_, _, ho, fun e he hb => hr _ ?_⟩
  ·have : i < listed.size := by omega
   simpa [this] using hu
  ·rw [haf i _ ho]
   exact List.mem_map.2 ⟨e, List.mem_filter.2 ⟨by simpa using he, hb⟩, rfl⟩
 have all : ∀ {listed : Array Bool}, listed.size = ops.size -> Region.ready .any ops listed = [] -> ∀ i, i < ops.size -> listed.getD i false = true := fun {listed} hs hn i => by
  induction i using Nat.strongRecOn with
  | ind i ih =>
   intro hi
   cases hu : listed.getD i false with
   | true => rfl
   | false =>
    have := isReady hs hi hu fun e he => ih e (hback i e he) (by have := hback i e he; omega)
    rw [hn] at this
    cases this
 have done : ∀ {listed : Array Bool} {env : List AV} {s : Sto} {β : Beta} {a : Act} {w : World}, (∀ i, i < ops.size -> listed.getD i false = true) ->
  Been E S ms x δ (fun j => listed.getD j false) env s -> St C β env s a w -> ∃ C', Ext C C' /\ ∃ β' env' s', St C' β' env' s' a w /\ Q .normal env' s' := fun {listed env s β a w} hall hb hst => by
  have hb' := hb.env (L' := fun _ => true) fun j hj => hall j (by omega)
  have e1 : env = E ms.length := by
   refine List.ext_getElem? fun t => ?_
   by_cases ht : t < (E 0).length
   ·have h1 := hb'.slot t ht
    rw [<- h.slot ht (Nat.le_refl _)] at h1
    have l1 : t < env.length := by rw [hb'.len]; exact ht
    have l2 : t < (E ms.length).length := by rw [h.len (Nat.le_refl _)]; exact ht
    rw [List.getD_eq_getElem?_getD, List.getD_eq_getElem?_getD, List.getElem?_eq_getElem l1, List.getElem?_eq_getElem l2] at h1
    rw [List.getElem?_eq_getElem l1, List.getElem?_eq_getElem l2]
    simpa using h1
   ·rw [List.getElem?_eq_none (by rw [hb'.len]; omega), List.getElem?_eq_none (by rw [h.len (Nat.le_refl _)]; omega)]
  have e2 : ∀ id, sat s id = sat (S ms.length) id := fun id => by rw [hb'.obj id, <- h.obj id (Nat.le_refl _)]
  rw [<- e1] at hQ
  obtain ⟨β', h1⟩ := Weak.sto (k := C.k) (env := env) e2 C β a w rfl hst
  exact ⟨C, .refl C, β', env, _, h1, hQ⟩
 intro fuel
 induction fuel with
 | zero =>
  intro listed env s β a w hs hf hd hb hst
  have hall := unl_zero (Nat.le_zero.1 hf)
  refine ⟨?_, done hall hb hst⟩
  cases hr : Region.ready .any ops listed with
  | nil => rfl
  | cons i rs =>
   have hi : i ∈ Region.ready .any ops listed := by rw [hr]; exact List.mem_cons_self
   obtain ⟨h1, o, ho, _⟩ := mem_ready.1 hi
   have hl : i < ops.size := (Array.getElem?_eq_some_iff.1 ho).1
   have h2 := hall i hl
   have : i < listed.size := by omega
   simp [this] at h1 h2
   rw [h1] at h2; cases h2
 | succ fuel ih =>
  intro listed env s β a w hs hf hd hb hst
  refine ⟨fun hn => done (all hs hn) hb hst, fun i hi => ?_⟩
  obtain ⟨h1, o, ho, hall⟩ := mem_ready.1 hi
  have hl : i < ops.size := (Array.getElem?_eq_some_iff.1 ho).1
  have hll : i < listed.size := by omega
  have hu : listed.getD i false = false := by simp [hll] at h1 ⊢; exact h1
  have hr : ∀ e ∈ after.getD i [], listed.getD e false = true := fun e he => by
   rw [haf i o ho] at he
   obtain ⟨d, hd1, rfl⟩ := List.mem_map.1 he
   obtain ⟨hd2, hd3⟩ := List.mem_filter.1 hd1
   exact hall d (by simpa using hd2) hd3
  obtain ⟨m0, hmi0, hmo⟩ := hget i o (by simpa using ho)
  rw [List.getElem?_map] at hmi0
  obtain ⟨m, hmi, rfl⟩ := Option.map_eq_some_iff.1 hmi0
  unfold wpOpIn
  rw [ho]
  simp only
  refine guard_sound (K := fun env' s' => env' = setD m.dst env (x i) /\ s' = sapp s (δ i)) hmo (h.run hd hmi hu hr hb) hst fun β' env' s' a' w' h4 h5 => ?_
  obtain ⟨rfl, rfl⟩ := h5
  have hset : ∀ j, j ≠ i -> (listed.setIfInBounds i true).getD j false = listed.getD j false := fun j hj => getD_set_ne false (Ne.symm hj)
  have hone : (listed.setIfInBounds i true).getD i false = true := by simp [hll]
  refine ih _ _ _ β' a' w' (by simpa using hs) ?_ (fun j hj e he => ?_) (h.next hd hmi hu hr hone hset hb) h4
  ·have := (unl_set (L := fun j => listed.getD j false) (L' := fun j => (listed.setIfInBounds i true).getD j false) hu hone hset (n := ops.size)).2 hl
   omega
  ·by_cases hji : j = i
   ·subst hji; exact getD_set_true (hr e he)
   ·rw [hset j hji] at hj; exact getD_set_true (hd j hj e he)
theorem m_draw {P : Program} {k : Nat} {Q : Post} {env : List AV} {s : Sto} {ms : List MOper} {after : List (List Nat)} (hP : P.follows .mixedOrders = true)
 (h : vdr P k (fun acc env s => drawOk ms after acc.reverse = true /\ Q .normal env s) ms [] env s) : MWp P k (.draw ms after) Q env s := fun C hC _ c hc β a w hst => by
 obtain ⟨id, ops, rfl, hm, ha⟩ := mini_draw hc
 subst hC
 obtain ⟨x, δ, ft, E, S, hE, hS, h1, h2, h3⟩ := vdr_chain h
 rw [List.append_nil, List.reverse_reverse] at h2
 obtain ⟨hlen, _⟩ := mapM_get hm
 rw [List.length_map] at hlen
 have hrep : ∀ j, (Array.replicate ops.size false).getD j false = false := fun j => by
  rw [Array.getD_eq_getD_getElem?, Array.getElem?_replicate]; split <;> rfl
 have g0 : ∀ {β : Type} {f : Nat -> Option β} {b : β} (n : Nat), gl f (fun j => (Array.replicate ops.size false).getD j false) b n = b := fun {β f b} n => by
  induction n with
  | zero => rfl
  | succ n ih => simp only [gl]; rw [if_neg (by rw [hrep]; simp)]; exact ih
 have hu : ∀ n, unl (fun j => (Array.replicate ops.size false).getD j false) n <= n := fun n => by
  induction n with
  | zero => exact Nat.le_refl _
  | succ n ih => simp only [unl]; rw [hrep]; simp only; omega
 refine wpIn_region_any hP (drawn_sound hm ha ⟨h1, h2⟩ h3 ops.size _ env s β a _ (by simp) (hu _) (fun i hi => ?_) ⟨by rw [hE], fun t ht => ?_, fun id' => ?_⟩ hst.drew)
 ·rw [hrep] at hi; cases hi
 ·rw [g0, hE]
 ·rw [g0, hS]
def drQ (ms : List MOper) (after : List (List Nat)) (Q : Post) (acc : List (List Nat × List Nat)) (env : List AV) (s : Sto) : Prop :=
 drawOk ms after acc.reverse = true /\ Q .normal env s
def vdrun (P : Program) (k0 : Nat) (F : List (List Nat × List Nat) -> List AV -> Sto -> Prop) (ms : List MOper) (acc : List (List Nat × List Nat)) (foot : List Nat) (d : Option Nat) (env : List AV) (s : Sto)
 (o : Del) : Prop := drun P k0 (sat s) (fun x δ ex => vdr P k0 F ms ((ex ++ foot, δ.map (·.1)) :: acc) (setD d env x) (sapp s δ)) o
def callD (P : Program) (k0 : Nat) (F : List (List Nat × List Nat) -> List AV -> Sto -> Prop) (ms : List MOper) (acc : List (List Nat × List Nat)) (foot : List Nat) (d : Option Nat) (env : List AV) (s : Sto)
 (f : Nat) (args : List AV) : Prop := callP P k0 (sat s) f args fun x δ ex => vdr P k0 F ms ((ex ++ foot, δ.map (·.1)) :: acc) (setD d env x) (sapp s δ)
def BrD (P : Program) (k0 : Nat) (F : List (List Nat × List Nat) -> List AV -> Sto -> Prop) (ms : List MOper) (acc : List (List Nat × List Nat)) (foot : List Nat) (d : Option Nat) (env : List AV) (s : Sto)
 (b : Bool) (o1 o2 : Del) : Prop := if b = true then vdrun P k0 F ms acc foot d env s o1 else vdrun P k0 F ms acc foot d env s o2
def BrH (P : Program) (k0 : Nat) (F : List (List Nat × List Nat) -> List AV -> Sto -> Prop) (b want : Bool) (m : MOp) (d : Option Nat) (ms : List MOper) (acc : List (List Nat × List Nat)) (env : List AV) (s : Sto) : Prop :=
 if b = want then vdrun P k0 F ms acc (mfoot (ev env) m) d env s (vdel P k0 (ev env) (sat s) m) else vdr P k0 F ms (([], []) :: acc) (setD d env (.tup [])) s
def vdrG (P : Program) (k0 : Nat) (F : List (List Nat × List Nat) -> List AV -> Sto -> Prop) (want : Bool) (m : MOp) (d : Option Nat) (ms : List MOper) (acc : List (List Nat × List Nat)) (env : List AV) (s : Sto) : AV -> Prop
 | .d (.lit (.bool b)) => BrH P k0 F b want m d ms acc env s
 | .tup [] => vdr P k0 F ms (([], []) :: acc) (setD d env (.tup [])) s
 | _ => False
section
variable {P : Program} {k0 : Nat} {F : List (List Nat × List Nat) -> List AV -> Sto -> Prop} {b want : Bool} {m : MOp} {d : Option Nat} {ms : List MOper} {env : List AV} {s : Sto}
 {acc : List (List Nat × List Nat)} {foot : List Nat}
theorem vdr_nil : vdr P k0 F [] acc env s = F acc env s := (rfl)
theorem vdr_plain : vdr P k0 F (⟨d, m, none⟩ :: ms) acc env s = vdrun P k0 F ms acc (mfoot (ev env) m) d env s (vdel P k0 (ev env) (sat s) m) := (rfl)
theorem vdr_guard {g : Nat} : vdr P k0 F (⟨d, m, some (some g, want)⟩ :: ms) acc env s = vdrG P k0 F want m d ms acc env s (env.getD g .junk) := by
 simp only [vdr, gd]
 generalize env.getD g .junk = x
 cases x with
 | d y => cases y with
  | lit u => cases u with
   | bool b =>
    simp only [vdrG, BrH]
    cases b <;> cases want <;> rfl
   | _ => rfl
  | _ => rfl
 | tup cs => cases cs <;> rfl
 | _ => rfl
theorem vdrun_ok {x : AV} {δ : List (Nat × Ob)} : vdrun P k0 F ms acc foot d env s (.ok x δ) = vdr P k0 F ms ((foot, δ.map (·.1)) :: acc) (setD d env x) (sapp s δ) := (rfl)
theorem vdrun_need {p : Prop} {o : Del} : vdrun P k0 F ms acc foot d env s (.need p o) = (p /\ vdrun P k0 F ms acc foot d env s o) := (rfl)
theorem vdrun_call {f : Nat} {args : List AV} : vdrun P k0 F ms acc foot d env s (.call f args) = callD P k0 F ms acc foot d env s f args := (rfl)
theorem vdrun_br {o1 o2 : Del} : vdrun P k0 F ms acc foot d env s (.br b o1 o2) = BrD P k0 F ms acc foot d env s b o1 o2 := (rfl)
theorem BrD_t {o1 o2 : Del} : BrD P k0 F ms acc foot d env s true o1 o2 = vdrun P k0 F ms acc foot d env s o1 := by simp [BrD]
theorem BrD_f {o1 o2 : Del} : BrD P k0 F ms acc foot d env s false o1 o2 = vdrun P k0 F ms acc foot d env s o2 := by simp [BrD]
theorem BrH_tt : BrH P k0 F true true m d ms acc env s = vdrun P k0 F ms acc (mfoot (ev env) m) d env s (vdel P k0 (ev env) (sat s) m) := by simp [BrH]
theorem BrH_ff : BrH P k0 F false false m d ms acc env s = vdrun P k0 F ms acc (mfoot (ev env) m) d env s (vdel P k0 (ev env) (sat s) m) := by simp [BrH]
theorem BrH_tf : BrH P k0 F true false m d ms acc env s = vdr P k0 F ms (([], []) :: acc) (setD d env (.tup [])) s := by simp [BrH]
theorem BrH_ft : BrH P k0 F false true m d ms acc env s = vdr P k0 F ms (([], []) :: acc) (setD d env (.tup [])) s := by simp [BrH]
end
theorem m_dgo {P : Program} {k : Nat} {Q : Post} {env : List AV} {s : Sto} {ms : List MOper} {after : List (List Nat)} (hP : P.follows .mixedOrders = true)
 (h : vdr P k (drQ ms after Q) ms [] env s) : MWp P k (.draw ms after) Q env s := m_draw hP h
theorem drQ_of {ms : List MOper} {after : List (List Nat)} {Q : Post} {acc : List (List Nat × List Nat)} {env : List AV} {s : Sto} (h : drawOk ms after acc.reverse = true) (hq : Q .normal env s) :
 drQ ms after Q acc env s := ⟨h, hq⟩
theorem lenL_d {x : D} : lenL (.d x) = lenL2 (slK (.d x)) := (rfl)
theorem ixaL2_msl {e e' id off len : Nat} {n : Int} : ixaL2 e n (.msl e' id off len) = .need (e' = e /\ 0 <= n /\ n < len) (.ok (.ptr id (off + n.toNat * e)) []) := (rfl)
theorem ixaL2_d {e : Nat} {n : Int} {x : D} : ixaL2 e n (.d x) = ixaL3 e n (slK (.d x)) := (rfl)
theorem ixaL2_own {e e' id : Nat} {n : Int} {xs : List D} : ixaL2 e n (.own e' id xs) = ixaL3 e n (some (e', xs)) := (rfl)
attribute [go_sem] bslnL appnL appnL3 appgL2 appgL bslgL loadL3 storeL3 appL4 vdr_nil vdr_plain vdr_guard vdrG vdrun_ok vdrun_need vdrun_call vdrun_br BrD_t BrD_f BrH_tt BrH_ff BrH_tf BrH_ft bndρ putPartsL loadL2 loadL storeL2 storeL binL binbL eqnilL unL convL pickL nilcL fadL fldL ixaL3 ixaL2_msl ixaL2_d ixaL2_own ixaL ixaAL lenL2 lenL_d lensL ixsL slsL2 slsL slcL2 slcL slcAL appL3 appL2 appL extL minmaxL boxL buildL bslL mksldL slcFL hiL mkslL callvL vdel mfoot sapp
def nilV0 : Value := .slice none 0 0
theorem St.tokNil {C : Ctx} {β : Beta} {env : List AV} {s : Sto} {a : Act} {w : World} (h : St C β env s a w) {id t e : Nat} (hd : sat s id = .dead) :
 St C (bset β id (.tok nilV0 0)) env (sset s id (.tok t e 0)) a w /\ Moves β s w (bset β id (.tok nilV0 0)) (sset s id (.tok t e 0)) w := by
 have hno : β id = .no := by have := h.inv.obs id; rw [hd] at this; exact this
 have noOwn : ∀ b o, ¬ own (bset β id (.tok nilV0 0)) [(id, .tok t e 0)] b o := fun b o ⟨i, hi⟩ => by
  by_cases h1 : i = id
  ·subst h1; simp [sat, bset, nilV0] at hi
  ·simp [sat, h1] at hi
 have noBlk : ∀ b, ¬ blockOf (bset β id (.tok nilV0 0)) [(id, .tok t e 0)] id b := fun b hi => by
  simp [blockOf, sat, bset, nilV0] at hi
 have m : Moves β s w (bset β id (.tok nilV0 0)) (sset s id (.tok t e 0)) w := by
  refine ⟨Nat.le_refl _, rfl, fun b o v hc _ => hc, fun b hb _ => rfl, fun b o ho => ?_, fun i b hb => ?_, fun i => ?_⟩
  ·rcases own_new ho with ho | ho
   ·exact .inl ho
   ·exact absurd ho (noOwn b o)
  ·rcases blockOf_new hb with ⟨_, hb⟩ | ⟨_, hb⟩
   ·exact .inl ⟨i, hb⟩
   ·exact absurd hb (noBlk b)
  ·by_cases hi : i = id
   ·subst hi; simp only [bset, if_true]; rw [hno]; trivial
   ·simp only [bset, hi, if_false]; exact .refl _
 refine ⟨h.move m (fun i => ?_) (fun i j b hi hj => ?_), m⟩
 ·rw [sat_sset]
  by_cases hi : i = id
  ·subst hi
   simp only [if_true, ObOk]
   exact ⟨nilV0, by simp [bset], .inl ⟨rfl, rfl⟩⟩
  ·simp only [hi, if_false]
   exact (h.inv.obs i).moves m (by simp [bset, hi]) (fun b hb => rfl) rfl
 ·rcases blockOf_new hi with ⟨hi1, hi2⟩ | ⟨rfl, hi2⟩ <;> rcases blockOf_new hj with ⟨hj1, hj2⟩ | ⟨rfl, hj2⟩
  ·exact h.inv.inj i j b hi2 hj2
  ·exact absurd hj2 (noBlk b)
  ·exact absurd hi2 (noBlk b)
  ·rfl
theorem nil_ok {O : Own} {w : World} {e0 : Nat} {v : Value} (h : D.ok O w (.sl e0 (some true) []) v) : v = nilV0 := by
 simp only [D.ok, NlOk] at h
 obtain ⟨a, cap, h1, _, ⟨rfl, rfl⟩, _⟩ := h
 simpa [nilV0] using h1
theorem own_nil {β : Beta} {O : Own} {w : World} {e id : Nat} (hb : β id = .tok nilV0 0) : AV.ok β O w (.own e id []) nilV0 := by
 simp only [AV.ok, D.ok, NlOk]
 exact ⟨⟨none, 0, by simp [nilV0], by simp [LenOk], trivial, by simp⟩, nilV0, 0, by rw [hb]; exact ⟨rfl, rfl⟩, Nat.le_refl _, fun _ => rfl⟩
theorem Weak.thaw {k : Nat} {env : List AV} {s : Sto} (i id t e : Nat) {e0 : Nat} (hd : sat s id = .dead) (hi : env[i]? = some (.d (.sl e0 (some true) []))) :
 Weak k env s (env.set i (.own e id [])) (sset s id (.tok t e 0)) := fun _ _ _ _ _ hst => by
 obtain ⟨h1, m⟩ := hst.tokNil (t := t) (e := e) hd
 refine ⟨_, h1.defers, h1.inv, by rw [h1.len, List.length_set], fun j x hj => ?_⟩
 rw [List.getElem?_set] at hj
 split at hj
 ·rename_i hij
  subst hij
  split at hj
  ·cases hj
   have := hst.env i _ hi
   simp only [AV.ok] at this
   rw [nil_ok this]
   exact own_nil (by simp [bset])
  ·cases hj
 ·exact h1.env j x hj
theorem St.retell {C : Ctx} {β : Beta} {env : List AV} {s : Sto} {a : Act} {w : World} (h : St C β env s a w) {o t : Nat} {cs cs' : List AV} (ho : sat s o = .obj t cs)
 (hc : ∀ vs, AV.oks β (C.forb β s) w cs vs -> AV.oks β (C.forb β s) w cs' vs) : St C β env (sset s o (.obj t cs')) a w := by
 have hown : ∀ b x, own β (sset s o (.obj t cs')) b x ↔ own β s b x := fun b x => by
  constructor <;> rintro ⟨i, hi⟩ <;> refine ⟨i, ?_⟩ <;> rw [sat_sset] at * <;> by_cases hio : i = o
  ·subst hio; simp only [if_true] at hi; rw [ho]; exact hi
  ·simpa [hio] using hi
  ·subst hio; rw [ho] at hi; simpa using hi
  ·simpa [hio] using hi
 have hblk : ∀ i b, blockOf β (sset s o (.obj t cs')) i b ↔ blockOf β s i b := fun i b => by
  unfold blockOf
  rw [sat_sset]
  by_cases hio : i = o
  ·subst hio; simp [ho]
  ·simp [hio]
 have m : Moves β s w β (sset s o (.obj t cs')) w :=
  ⟨Nat.le_refl _, rfl, fun b o v hc _ => hc, fun b hb _ => rfl, fun b x hx => .inl ((hown b x).1 hx), fun i b hb => .inl ⟨i, (hblk i b).1 hb⟩, fun i => .refl _⟩
 refine h.move m (fun i => ?_) (fun i j b hi hj => h.inv.inj i j b ((hblk i b).1 hi) ((hblk j b).1 hj))
 rw [sat_sset]
 by_cases hio : i = o
 ·subst hio
  simp only [if_true]
  have := h.inv.obs i
  rw [ho] at this
  obtain ⟨b, vs, h1, h2, h3, h4⟩ := this
  exact ⟨b, vs, h1, h2, h3, h4.imp fun _ h => m.oks (hc _ h)⟩
 ·simp only [hio, if_false]
  exact (h.inv.obs i).moves m rfl (fun b hb => rfl) rfl
theorem oks_set {β : Beta} {O : Own} {w : World} {y : AV} : ∀ {cs : List AV} {vs : List Value} {j : Nat} {x : AV}, cs[j]? = some x -> (∀ v, AV.ok β O w x v -> AV.ok β O w y v) -> AV.oks β O w cs vs -> AV.oks β O w (cs.set j y) vs
 | [], vs, j, x, hj, _, _ => by simp at hj
 | c :: cs, vs, 0, x, hj, hy, h => by
  simp only [AV.oks, List.set_cons_zero] at h ⊢
  simp at hj
  subst hj
  obtain ⟨v, r, h1, h2, h3⟩ := h
  exact ⟨v, r, h1, hy v h2, h3⟩
 | c :: cs, vs, j + 1, x, hj, hy, h => by
  simp only [AV.oks, List.set_cons_succ] at h ⊢
  obtain ⟨v, r, h1, h2, h3⟩ := h
  exact ⟨v, r, h1, h2, oks_set (by simpa using hj) hy h3⟩
theorem Weak.thawCell {k : Nat} {env : List AV} {s : Sto} (o j id t e : Nat) {e0 t' : Nat} {cs : List AV} (hd : sat s id = .dead) (ho : sat s o = .obj t' cs) (hj : cs[j]? = some (.d (.sl e0 (some true) []))) :
 Weak k env s env (sset (sset s id (.tok t e 0)) o (.obj t' (cs.set j (.own e id [])))) := fun _ _ _ _ _ hst => by
 obtain ⟨h1, m⟩ := hst.tokNil (t := t) (e := e) hd
 have hoi : o ≠ id := by rintro rfl; rw [hd] at ho; cases ho
 refine ⟨_, h1.retell (cs := cs) (by rw [sat_sset, if_neg hoi, ho]) fun _ hv => oks_set hj (fun _ hv => ?_) hv⟩
 simp only [AV.ok] at hv
 rw [nil_ok hv]
 exact own_nil (by simp [bset])
def D.le (x y : D) : Prop := ∀ O w vs, D.cel O w x vs -> D.cel O w y vs
def DsLe : List D -> List D -> Prop
 | [], [] => True
 | x :: xs, y :: ys => D.le x y /\ DsLe xs ys
 | _, _ => False
theorem D.le_refl (x : D) : D.le x x := fun _ _ _ h => h
theorem DsLe.refl : ∀ xs : List D, DsLe xs xs
 | [] => trivial
 | x :: xs => ⟨D.le_refl x, DsLe.refl xs⟩
theorem DsLe.length : ∀ {xs ys : List D}, DsLe xs ys -> xs.length = ys.length
 | [], [], _ => rfl
 | _ :: _, _ :: _, h => by simp [DsLe.length h.2]
 | [], _ :: _, h => h.elim
 | _ :: _, [], h => h.elim
theorem DsLe.append : ∀ {xs ys us vs : List D}, DsLe xs ys -> DsLe us vs -> DsLe (xs ++ us) (ys ++ vs)
 | [], [], _, _, _, h => h
 | _ :: _, _ :: _, _, _, h, k => ⟨h.1, DsLe.append h.2 k⟩
 | [], _ :: _, _, _, h, _ => h.elim
 | _ :: _, [], _, _, h, _ => h.elim
theorem DsLe.row {O : Own} {w : World} {b e : Nat} : ∀ {xs ys : List D} {o : Nat}, DsLe xs ys -> D.row O w b o e xs -> D.row O w b o e ys
 | [], [], _, _, h => h
 | _ :: _, _ :: _, _, h, hr => by
  rw [D.row_cons] at hr ⊢
  obtain ⟨⟨vs, h1, h2, h3⟩, h4⟩ := hr
  exact ⟨⟨vs, h1, h2, h.1 O w vs h3⟩, DsLe.row h.2 h4⟩
 | [], _ :: _, _, h, _ => h.elim
 | _ :: _, [], _, h, _ => h.elim
theorem sl_le {O : Own} {w : World} {e : Nat} {nl : Option Bool} {xs ys : List D} {v : Value} (h : DsLe xs ys) (hv : D.ok O w (.sl e nl xs) v) : D.ok O w (.sl e nl ys) v := by
 simp only [D.ok] at hv ⊢
 obtain ⟨a, cap, h1, h2, h3, h4⟩ := hv
 refine ⟨a, cap, by rw [<- h.length]; exact h1, by rw [<- h.length]; exact h2, h3, ?_⟩
 rcases h4 with h4 | ⟨b, o, h5, h6⟩
 ·subst h4
  cases ys with
  | nil => exact .inl rfl
  | cons y ys => exact h.elim
 ·exact .inr ⟨b, o, h5, h.row h6⟩
theorem AV.le_sl {e : Nat} {nl : Option Bool} {xs ys : List D} (h : DsLe xs ys) : AV.le (.d (.sl e nl xs)) (.d (.sl e nl ys)) := fun _ _ _ _ hv => by
 simp only [AV.ok] at hv ⊢
 exact sl_le h hv
theorem AV.le_ownown {e id : Nat} {xs ys : List D} (h : DsLe xs ys) : AV.le (.own e id xs) (.own e id ys) := fun _ _ _ _ hv => by
 simp only [AV.ok] at hv ⊢
 obtain ⟨h1, u, n, h2, h3, h4⟩ := hv
 exact ⟨sl_le h h1, u, n, h2, by rw [<- h.length]; exact h3, by rw [<- h.length]; exact h4⟩
end Abx
