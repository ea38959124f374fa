/- The layer, second part: rules for calls, loops, regions that draw their order, loops over functions; nothing is assumed. -/
import Derived.Test.YtklfjpilhbkekaaGreatZabs
set_option linter.all false
namespace Abx
open Go
abbrev q9j := Exit -> List AV -> j9 -> Prop
structure Ext (C C' : Ctx) : Prop where
 size : C.w.heap.size <= C'.w.heap.size
 k : C'.k = C.k
 ro : C'.ro = C.ro
 nm : C'.nm = C.nm
 dom : C'.dom = C.dom
 O : C'.O = C.O
 inv : ∀ β s w, Inv C' β s w -> Inv C β s w
theorem Ext.refl (C : Ctx) : Ext C C := ⟨Nat.le_refl _, rfl, rfl, rfl, rfl, rfl, fun _ _ _ h => h⟩
theorem Ext.trans {C C' C'' : Ctx} (h : Ext C C') (h' : Ext C' C'') : Ext C C'' :=
 ⟨Nat.le_trans h.size h'.size, h'.k.trans h.k, h'.ro.trans h.ro, h'.nm.trans h.nm, h'.dom.trans h.dom, h'.O.trans h.O, fun β s w hi => h.inv β s w (h'.inv β s w hi)⟩
theorem Ext.fence {C C' : Ctx} (h : Ext C C') : C'.fence = C.fence := by unfold Ctx.fence; rw [h.ro]
theorem Ext.forb {C C' : Ctx} (h : Ext C C') (β : x5) (s : j9) : C'.forb β s = C.forb β s := by unfold Ctx.forb; rw [h.O]
def Ctx.plain (C : Ctx) : Prop := C.ro = none /\ C.nm = false /\ C.dom <= C.w.heap.size
theorem Ext.plain {C C' : Ctx} (h : Ext C C') (hp : C.plain) : C'.plain := ⟨h.ro.trans hp.1, h.nm.trans hp.2.1, by rw [h.dom]; exact Nat.le_trans hp.2.2 h.size⟩
def CWp (P : Program) (C : Ctx) (c : Code) (Q : q9j) (env : List AV) (s : j9) : Prop :=
 ∀ β a w, St C β env s a w -> c.wpIn C.fence 0 P (fun e a' w' => ∃ C', Ext C C' /\ ∃ β' env' s', St C' β' env' s' a' w' /\ Q e env' s') a w
def j5.flat : j5 -> Bool
 | .seq a b => a.flat && b.flat
 | .cond _ a b => a.flat && b.flat
 | .block _ a => a.flat
 | .loop a => a.flat
 | .ghost a => a.flat
 | .rng .. => false
 | _ => true
def MWp (P : Program) (k : Nat) (mc : j5) (Q : q9j) (env : List AV) (s : j9) : Prop :=
 ∀ C : Ctx, C.k = k -> (mc.flat = true ∨ C.plain) -> ∀ c, q5t P c = some mc.erase -> CWp P C c Q env s
def z3k (K : List AV -> j9 -> Prop) (Q : q9j) : q9j
 | .normal, env, s => K env s
 | e, env, s => Q e env s
def z1e (id : Nat) (Q : q9j) : q9j
 | .exit id', env, s => if id' = id then Q .normal env s else Q (.exit id') env s
 | e, env, s => Q e env s
def j1s (P : Program) (k0 : Nat) : List f8 -> List AV -> j9 -> (List AV -> j9 -> Prop) -> Prop
 | [], env, s, K => K env s
 | m :: ms, env, s, K => match m.guard with
  | none => vop P k0 m.op env s fun x env s => j1s P k0 ms (d7 m.dst env x) s K
  | some (g, want) => match g with
   | none => j1s P k0 ms (d7 m.dst env (.tup [])) s K
   | some d => match env.getD d .junk with
    | .d (.lit (.bool b)) => Br b want (vop P k0 m.op env s fun x env s => j1s P k0 ms (d7 m.dst env x) s K) (j1s P k0 ms (d7 m.dst env (.tup [])) s K)
    | .tup [] => j1s P k0 ms (d7 m.dst env (.tup [])) s K
    | _ => False
theorem j5k {P : Program} {c : Code} (h : q5t P c = some .skip) : c = .skip := by
 cases c <;> simp [q5t, bes, Option.map_eq_some_iff] at h ⊢
 case region => obtain ⟨ms, _, h⟩ := h; split at h <;> cases h
theorem x1g {P : Program} {c : Code} (h : q5t P c = some .ret) : c = .ret := by
 cases c <;> simp [q5t, bes, Option.map_eq_some_iff] at h ⊢
 case region => obtain ⟨ms, _, h⟩ := h; split at h <;> cases h
theorem j5i {P : Program} {c : Code} {id : Nat} (h : q5t P c = some (.exit id)) : c = .exit id := by
 cases c <;> simp [q5t, bes, Option.map_eq_some_iff] at h ⊢
 case region => obtain ⟨ms, _, h⟩ := h; split at h <;> cases h
 case exit => exact h
theorem x1h {P : Program} {c : Code} {x y : j5} (h : q5t P c = some (.seq x y)) : ∃ a b, c = .seq a b /\ q5t P a = some x /\ q5t P b = some y := by
 cases c <;> simp [q5t, bes, Option.map_eq_some_iff] at h ⊢
 case region => obtain ⟨ms, _, h⟩ := h; split at h <;> cases h
 case seq => exact ⟨_, _, ⟨rfl, rfl⟩, h⟩
theorem j5g {P : Program} {c : Code} {o : Operand} {x y : j5} (h : q5t P c = some (.cond o x y)) : ∃ a b, c = .cond o a b /\ q5t P a = some x /\ q5t P b = some y := by
 cases c <;> simp [q5t, bes, Option.map_eq_some_iff] at h ⊢
 case region => obtain ⟨ms, _, h⟩ := h; split at h <;> cases h
 case cond => obtain ⟨x', h1, y', h2, rfl, rfl, rfl⟩ := h; exact ⟨_, _, ⟨rfl, rfl, rfl⟩, h1, h2⟩
theorem j0l {P : Program} {c : Code} {id : Nat} {x : j5} (h : q5t P c = some (.block id x)) : ∃ a, c = .block id a /\ q5t P a = some x := by
 cases c <;> simp [q5t, bes, Option.map_eq_some_iff] at h ⊢
 case region => obtain ⟨ms, _, h⟩ := h; split at h <;> cases h
 case block => exact ⟨_, ⟨h.2, rfl⟩, h.1⟩
theorem j5j {P : Program} {c : Code} {x : j5} (h : q5t P c = some (.loop x)) : ∃ a, c = .loop a /\ q5t P a = some x := by
 cases c <;> simp [q5t, bes, Option.map_eq_some_iff] at h ⊢
 case region => obtain ⟨ms, _, h⟩ := h; split at h <;> cases h
 case loop => exact h
theorem x1f {P : Program} {c : Code} {ms : List f8} (h : q5t P c = some (.reg ms)) : ∃ id ops, c = .region id ops false /\ ops.toList.mapM (q3g P ops) = some ms := by
 cases c <;> simp [q5t, bes, Option.map_eq_some_iff] at h ⊢
 case region =>
  obtain ⟨ms', h1, h2⟩ := h
  split at h2
  ·cases h2
  ·rename_i hd; cases h2; exact ⟨_, _, ⟨rfl, rfl, by simpa using hd⟩, h1⟩
section
variable {P : Program} {k : Nat} {Q : q9j} {env : List AV} {s : j9}
theorem z6v {x y : Bool} {p : Prop} (h : (x && y) = true ∨ p) : (x = true ∨ p) /\ (y = true ∨ p) := by
 rcases h with h | h
 ·rw [Bool.and_eq_true] at h; exact ⟨.inl h.1, .inl h.2⟩
 ·exact ⟨.inr h, .inr h⟩
theorem y2w (h : Q .normal env s) : MWp P k .skip Q env s := fun C _ _ c hc β a w hst => by
 rw [j5k hc]; exact wpIn_skip ⟨C, .refl C, β, env, s, hst, h⟩
theorem m_ret (h : Q .ret env s) : MWp P k .ret Q env s := fun C _ _ c hc β a w hst => by
 rw [x1g hc]; exact wpIn_ret ⟨C, .refl C, β, env, s, hst, h⟩
theorem y2u {id : Nat} (h : Q (.exit id) env s) : MWp P k (.exit id) Q env s := fun C _ _ c hc β a w hst => by
 rw [j5i hc]; exact wpIn_exit ⟨C, .refl C, β, env, s, hst, h⟩
theorem m_seq {x y : j5} (h : MWp P k x (z3k (fun env s => MWp P k y Q env s) Q) env s) : MWp P k (.seq x y) Q env s := fun C hC hf c hc β a w hst => by
 obtain ⟨c1, c2, rfl, h1, h2⟩ := x1h hc
 obtain ⟨f1, f2⟩ := z6v hf
 refine wpIn_seq (wpIn_mono (h C hC f1 c1 h1 β a w hst) fun e a' w' he => ?_)
 obtain ⟨C', hx, β', env', s', hst', hq⟩ := he
 cases e with
 | normal =>
  have := hq C' (hx.k.trans hC) (f2.imp id hx.plain) c2 h2 β' a' w' hst'
  rw [hx.fence] at this
  exact wpIn_mono this fun e a' w' ⟨C'', hx', r⟩ => ⟨C'', hx.trans hx', r⟩
 | exit id => exact ⟨C', hx, β', env', s', hst', hq⟩
 | goto l => exact ⟨C', hx, β', env', s', hst', hq⟩
 | ret => exact ⟨C', hx, β', env', s', hst', hq⟩
 | panic ch => exact ⟨C', hx, β', env', s', hst', hq⟩
 | outgrown => exact ⟨C', hx, β', env', s', hst', hq⟩
theorem x7y {id : Nat} {x : j5} (h : MWp P k x (z1e id Q) env s) : MWp P k (.block id x) Q env s := fun C hC hf c hc β a w hst => by
 obtain ⟨c1, rfl, h1⟩ := j0l hc
 refine wpIn_block (wpIn_mono (h C hC hf c1 h1 β a w hst) fun e a' w' he => ?_)
 obtain ⟨C', hx, β', env', s', hst', hq⟩ := he
 cases e with
 | exit id' =>
  simp only [z1e] at hq
  simp only [Exit.inBlock]
  split <;> rename_i hid <;> simp only [hid, if_true, if_false] at hq <;> exact ⟨C', hx, β', env', s', hst', hq⟩
 | normal => exact ⟨C', hx, β', env', s', hst', hq⟩
 | goto l => exact ⟨C', hx, β', env', s', hst', hq⟩
 | ret => exact ⟨C', hx, β', env', s', hst', hq⟩
 | panic ch => exact ⟨C', hx, β', env', s', hst', hq⟩
 | outgrown => exact ⟨C', hx, β', env', s', hst', hq⟩
theorem y2s {o : Operand} {x y : j5} {b : Bool} (hb : ev env o = .d (.lit (.bool b))) (h : Br b true (MWp P k x Q env s) (MWp P k y Q env s)) :
 MWp P k (.cond o x y) Q env s := fun C hC hf c hc β a w hst => by
 obtain ⟨c1, c2, rfl, h1, h2⟩ := j5g hc
 obtain ⟨f1, f2⟩ := z6v hf
 have hv := hst.ev o
 rw [hb] at hv
 refine wpIn_cond (q1b hv) ?_
 unfold Br at h
 cases b with
 | true => exact h C hC f1 c1 h1 β a w hst
 | false => exact h C hC f2 c2 h2 β a w hst
def y0 (k : Nat) (env : List AV) (s : j9) (env' : List AV) (s' : j9) : Prop :=
 ∀ (C : Ctx) (β : x5) (a : Act) (w : World), C.k = k -> St C β env s a w -> ∃ β', St C β' env' s' a w
theorem x7z {x : j5} {env' : List AV} {s' : j9} (hw : y0 k env s env' s') (h : MWp P k x Q env' s') : MWp P k (.ghost x) Q env s := fun C hC hf c hc β a w hst => by
 obtain ⟨β', hst'⟩ := hw C β a w hC hst
 exact h C hC hf c hc β' a w hst'
theorem y2v {x : j5} {ι : Type} (E : ι -> List AV) (S : ι -> j9) (inv : ι -> Prop) (μ : ι -> Nat) (i0 : ι) (h0 : inv i0) (hw : y0 k env s (E i0) (S i0))
 (round : ∀ i, inv i -> MWp P k x (z3k (fun env' s' => ∃ i', inv i' /\ μ i' < μ i /\ y0 k env' s' (E i') (S i')) Q) (E i) (S i)) : MWp P k (.loop x) Q env s :=
 fun C hC hf c hc β a w hst => by
 obtain ⟨c1, rfl, h1⟩ := j5j hc
 obtain ⟨β0, hst0⟩ := hw C β a w hC hst
 intro b kk cs hro hb hr
 have key : ∀ n i C' β a w, Ext C C' -> μ i = n -> inv i -> St C' β (E i) (S i) a w ->
  ∃ e a' w', (∃ C'', Ext C C'' /\ ∃ β' env' s', St C'' β' env' s' a' w' /\ Q e env' s') /\ ArrivesIn (Machine.fenced P C.fence) P (lone (b.atR a (.code c1 :: .inLoop c1 :: kk)) cs w) b kk cs e a' w' := by
  intro n
  induction n using Nat.strongRecOn with
  | _ n ih =>
   intro i C' β a w hx hn hi hst
   have hrd := round i hi C' (hx.k.trans hC) (hf.imp id hx.plain) c1 h1 β a w hst
   rw [hx.fence] at hrd
   obtain ⟨e, a₁, w₁, hq, harr⟩ := hrd b (.inLoop c1 :: kk) cs hro hb hr
   obtain ⟨C'', hx', β', env', s', hst', hq⟩ := hq
   have hxx := hx.trans hx'
   cases e with
   | normal =>
    obtain ⟨i', hi', hlt, hwk⟩ := hq
    obtain ⟨β2, hst2⟩ := hwk C'' β' a₁ w₁ (hxx.k.trans hC) hst'
    obtain ⟨e₂, a₂, w₂, hq₂, harr₂⟩ := ih (μ i') (hn ▸ hlt) i' C'' β2 a₁ w₁ hxx rfl hi' hst2
    exact ⟨e₂, a₂, w₂, hq₂, .of_steps (StepsIn.trans harr (.one (fenced_calm hb hr rfl) stepR_inLoop)) harr₂⟩
   | exit id => exact ⟨_, a₁, w₁, ⟨C'', hxx, β', env', s', hst', hq⟩, .pass (x := .inLoop c1) rfl (fun _ _ => .inl (by simp)) harr⟩
   | goto l => exact ⟨_, a₁, w₁, ⟨C'', hxx, β', env', s', hst', hq⟩, .pass (x := .inLoop c1) rfl (fun _ _ => .inl (by simp)) harr⟩
   | ret => exact ⟨_, a₁, w₁, ⟨C'', hxx, β', env', s', hst', hq⟩, .pass (x := .inLoop c1) rfl (fun _ _ => .inl (by simp)) harr⟩
   | panic ch => exact ⟨_, a₁, w₁, ⟨C'', hxx, β', env', s', hst', hq⟩, .pass (x := .inLoop c1) rfl (fun _ _ => .inl (by simp)) harr⟩
   | outgrown => exact ⟨_, a₁, w₁, ⟨C'', hxx, β', env', s', hst', hq⟩, .pass (x := .inLoop c1) rfl (fun _ _ => .inl (by simp)) harr⟩
 obtain ⟨e, a', w', hq, harr⟩ := key _ i0 C β0 a w (.refl C) rfl h0 hst0
 exact ⟨e, a', w', hq, .of_steps (.one (fenced_calm hb hr rfl) stepR_loop) harr⟩
end
theorem k9o {P : Program} {ops : Array Oper} {o : Oper} {m : f8} (h : q3g P ops o = some m.erase) :
 m.op.erase = (o9q P o).getD .dead /\ m.dst = o.dst /\ m.guard = o.guard.map fun (j, b) => ((ops[j]?).bind (·.dst), b) := by
 unfold q3g f8.erase at h
 simp only [Option.some.injEq, f8.mk.injEq] at h
 exact ⟨h.2.1.symm, h.1.symm, h.2.2.symm⟩
theorem z5w {o : Oper} {y : Nat -> Option Bool} (h : o.guard = none) : Region.wanted o y = true := by simp [Region.wanted, h]
theorem z3w {C : Ctx} {β : x5} {env : List AV} {s : j9} {a : Act} {w : World} (hst : St C β env s a w) {ops : Array Oper} {j d : Nat} {b : Bool}
 (hd : (ops[j]?).bind (·.dst) = some d) (hb : env.getD d .junk = .d (.lit (.bool b))) : yielded ops a.tmps j = some b := by
 have h1 := hst.ev (.tmp d)
 simp only [ev] at h1
 rw [hb] at h1
 have h1 := q1b h1
 simp only [Act.eval] at h1
 unfold yielded
 rw [hd]
 simp only [obz]
 have hlt : d < a.tmps.size := by
  rcases Nat.lt_or_ge d a.tmps.size with h | h
  ·exact h
  ·have : a.tmps.getD d undef = undef := by simp [Array.getD_eq_getD_getElem?, Array.getElem?_eq_none h]
   rw [this] at h1
   cases h1
 have h2 : a.tmps[d]? = some (.bool b) := by
  rw [Array.getElem?_eq_getElem hlt]
  rw [Array.getD_eq_getD_getElem?, Array.getElem?_eq_getElem hlt] at h1
  simpa using h1
 rw [h2]
theorem z3x {C : Ctx} {β : x5} {env : List AV} {s : j9} {a : Act} {w : World} (hst : St C β env s a w) {ops : Array Oper} {j d : Nat}
 (hd : (ops[j]?).bind (·.dst) = some d) (hb : env.getD d .junk = .tup []) : yielded ops a.tmps j = none := by
 have h1 := hst.ev (.tmp d)
 simp only [ev] at h1
 rw [hb] at h1
 simp only [AV.ok, AV.oks, Act.eval] at h1
 obtain ⟨vs, h1, _⟩ := h1
 unfold yielded
 rw [hd]
 simp only [obz]
 cases hx : a.tmps[d]? with
 | none => rfl
 | some v =>
  have : a.tmps.getD d undef = v := by rw [Array.getD_eq_getD_getElem?, hx]; rfl
  rw [this] at h1
  subst h1
  rfl
theorem k5p {P : Program} {C : Ctx} {ops : Array Oper} {o : Oper} {m : f8} (hm : q3g P ops o = some m.erase) {env : List AV} {s : j9} {K : List AV -> j9 -> Prop}
 (hk : match m.guard with
  | none => vop P C.k m.op env s fun x env s => K (d7 m.dst env x) s
  | some (g, want) => match g with
   | none => K (d7 m.dst env (.tup [])) s
   | some d => match env.getD d .junk with
    | .d (.lit (.bool b)) => Br b want (vop P C.k m.op env s fun x env s => K (d7 m.dst env x) s) (K (d7 m.dst env (.tup [])) s)
    | .tup [] => K (d7 m.dst env (.tup [])) s
    | _ => False)
 {β : x5} {a : Act} {w : World} (hst : St C β env s a w) {Q : Exit -> Act -> World -> Prop} {next : Act -> World -> Prop}
 (hn : ∀ β' env' s' a' w', St C β' env' s' a' w' -> K env' s' -> next a' w') :
 if Region.wanted o (yielded ops a.tmps) then o.wpIn C.fence 0 P a w next Q else (∀ f, o.about P w a.eval = some f -> C.fence.fn f) /\ next (a.put o.dst undef) w := by
 obtain ⟨h1, h2, h3⟩ := k9o hm
 have run : vop P C.k m.op env s (fun x env s => K (d7 m.dst env x) s) -> o.wpIn C.fence 0 P a w next Q := fun h => by
  rw [h2] at h
  have h1' : o9q P o = some m.op.erase := by
   cases hq : o9q P o with
   | some x => rw [hq] at h1; rw [h1]; rfl
   | none =>
    rw [hq] at h1
    simp only [Option.getD_none] at h1
    have : m.op = .dead := by cases hmo : m.op <;> rw [hmo] at h1 <;> simp [MOp.erase] at h1 ⊢
    rw [this] at h
    exact h.elim
  have hnd : ∀ c, o.op ≠ .defer c := fun c hc => by unfold o9q at h1'; rw [hc] at h1'; cases h1'
  have := j7d h1' h hnd Q β a w hst
  exact Oper.wpIn_mono (fun a' w' ⟨β', env', s', h4, h5⟩ => hn β' env' s' a' w' h4 h5) this
 have skip : K (d7 m.dst env (.tup [])) s -> (∀ f, o.about P w a.eval = some f -> C.fence.fn f) /\ next (a.put o.dst undef) w := fun h => by
  rw [h2] at h
  refine ⟨fun _ _ => trivial, ?_⟩
  exact hn _ _ _ _ _ (hst.put (x := .tup []) (v := undef) (by simp [AV.ok, AV.oks, undef]) o.dst) h
 cases hg : o.guard with
 | none =>
  rw [hg] at h3
  simp only [Option.map_none] at h3
  rw [h3] at hk
  rw [if_pos (z5w hg)]
  exact run hk
 | some p =>
  obtain ⟨j, want⟩ := p
  rw [hg] at h3
  simp only [Option.map_some] at h3
  rw [h3] at hk
  have hw : Region.wanted o (yielded ops a.tmps) = (yielded ops a.tmps j == some want) := by simp [Region.wanted, hg]
  rw [hw]
  cases hd : (ops[j]?).bind (·.dst) with
  | none =>
   rw [hd] at hk
   have : yielded ops a.tmps j = none := by simp [yielded, hd]
   rw [this]
   exact skip hk
  | some d =>
   rw [hd] at hk
   simp only at hk
   split at hk
   ·rename_i b hb
    rw [z3w hst hd hb]
    unfold Br at hk
    by_cases hbw : b = want
    ·rw [if_pos hbw] at hk
     subst hbw
     rw [if_pos (by simp)]
     exact run hk
    ·rw [if_neg hbw] at hk
     rw [if_neg (by simpa using hbw)]
     exact skip hk
   ·rename_i hb
    rw [z3x hst hd hb]
    exact skip hk
   ·exact hk.elim
theorem k8c {P : Program} {C : Ctx} {ops : Array Oper} {Q : q9j} : ∀ (n i : Nat) (ms : List f8) (env : List AV) (s : j9), i + n = ops.size ->
 (ops.toList.drop i).mapM (q3g P ops) = some (ms.map f8.erase) -> j1s P C.k ms env s (fun env s => Q .normal env s) ->
 ∀ (β : x5) (a : Act) (w : World), St C β env s a w -> wpOpsIn C.fence 0 P ops (fun e a' w' => ∃ C', Ext C C' /\ ∃ β' env' s', St C' β' env' s' a' w' /\ Q e env' s') (List.range' i n) a w
 | 0, i, ms, env, s => fun hi hm hk β a w hst => by
  have : ops.toList.drop i = [] := by apply List.drop_eq_nil_of_le; simp; omega
  rw [this] at hm
  simp at hm
  subst hm
  exact ⟨C, .refl C, β, env, s, hst, hk⟩
 | n + 1, i, ms, env, s => fun hi hm hk β a w hst => by
  have hlt : i < ops.toList.length := by simp; omega
  rw [List.drop_eq_getElem_cons hlt] at hm
  simp only [List.mapM_cons, Option.bind_eq_bind, bes] at hm
  obtain ⟨m0, h1, ms0, h2, h3⟩ := hm
  cases ms with
  | nil => cases h3
  | cons m ms' =>
  simp only [List.map_cons, Option.pure_def, Option.some.injEq, List.cons.injEq] at h3
  obtain ⟨rfl, rfl⟩ := h3
  rw [List.range'_succ]
  simp only [wpOpsIn]
  have ho : ops[i]? = some ops.toList[i] := by simp at hlt; simp [hlt]
  rw [ho]
  simp only
  refine k5p (K := fun env s => j1s P C.k ms' env s fun env s => Q .normal env s) h1 ?_ hst fun β' env' s' a' w' h4 h5 => k8c n (i + 1) ms' env' s' (by omega) h2 h5 β' a' w' h4
  simpa only [j1s] using hk
theorem m_reg {P : Program} {k : Nat} {Q : q9j} {env : List AV} {s : j9} {ms : List f8} (h : j1s P k ms env s fun env s => Q .normal env s) : MWp P k (.reg ms) Q env s :=
 fun C hC _ c hc β a w hst => by
 obtain ⟨id, ops, rfl, hm⟩ := x1f hc
 subst hC
 refine wpIn_region ?_
 have := k8c (Q := Q) (ops := ops) ops.size 0 ms env s (by omega) (by simpa using hm) h β a w hst
 rwa [<- List.range_eq_range'] at this
inductive k6n where
 | tmp (t : Nat)
 | cell (a n : Nat) (ag : Bool)
def k1v (P : Program) : ResultVar -> Option k6n
 | .tmp t => some (.tmp t)
 | .cell a t => (g3q P t).bind fun n => (k8l P t).map fun ag => .cell a (if ag then n else 1) ag
def k9z (env : List AV) (s : j9) : List k6n -> (List AV -> Prop) -> Prop
 | [], K => K []
 | .tmp t :: r, K => k9z env s r fun xs => K (env.getD t .junk :: xs)
 | .cell a n ag :: r, K => q4d n ag (env.getD a .junk) s fun x => k9z env s r fun xs => K (x :: xs)
def z2o : List AV -> AV
 | [x] => x
 | xs => .tup xs
def x0h (rs : List k6n) (R : AV -> j9 -> Prop) : q9j
 | .normal, env, s => k9z env s rs fun xs => R (z2o xs) s
 | .ret, env, s => k9z env s rs fun xs => R (z2o xs) s
 | _, _, _ => False
def y6x (tmps : Array Value) : ResultVar -> Sem Value
 | .tmp t => pure (tmps.getD t undef)
 | .cell b t => do loadVar t (<- asAddr (tmps.getD b undef))
theorem j0y (fn : Func) (tmps : Array Value) : results fn tmps = (do let vs <- fn.results.mapM (y6x tmps); pure (if h : vs.size = 1 then vs[0] else .tuple vs)) := by
 unfold results
 have : (fun x => match x with | ResultVar.tmp t => (pure (tmps.getD t undef) : Sem Value) | ResultVar.cell a t => do loadVar t (<- asAddr (tmps.getD a undef))) = y6x tmps := by
  funext x; cases x <;> rfl
 rw [<- this]
 rfl
theorem z5m {P : Program} {C : Ctx} {β : x5} {env : List AV} {s : j9} {a : Act} {w : World} (hst : St C β env s a w) : ∀ (rv : List ResultVar) (rs : List k6n) (K : List AV -> Prop),
 rv.mapM (k1v P) = some rs -> k9z env s rs K ->
 ∃ vs xs, (rv.mapM (y6x a.tmps)).run P w = .ok vs w /\
  AV.oks β (C.forb β s) w xs vs /\ K xs
 | [], rs, K => fun h1 h2 => by
  simp at h1
  subst h1
  exact ⟨[], [], by simp, by simp [AV.oks], h2⟩
 | .tmp t :: rv, rs, K => fun h1 h2 => by
  simp only [List.mapM_cons, Option.bind_eq_bind, bes, k1v] at h1
  obtain ⟨_, h3, rs', h4, h5⟩ := h1
  cases h3
  cases h5
  simp only [k9z] at h2
  obtain ⟨vs, xs, h6, h7, h8⟩ := z5m hst rv rs' _ h4 h2
  refine ⟨a.tmps.getD t undef :: vs, _, ?_, ?_, h8⟩
  ·rw [List.mapM_cons]
   simp only [y6x, Sem.run_bind, Sem.run_pure, Result.andThen_ok, h6]
  ·simp only [AV.oks]; exact ⟨_, _, rfl, hst.ev (.tmp t), h7⟩
 | .cell b t :: rv, rs, K => fun h1 h2 => by
  simp only [List.mapM_cons, Option.bind_eq_bind, bes, Option.map_eq_some_iff, k1v] at h1
  obtain ⟨_, ⟨n, hn, ag, hg, h3⟩, rs', h4, h5⟩ := h1
  subst h3
  cases h5
  simp only [k9z] at h2
  obtain ⟨v, x, h6, h7, h8⟩ := z2l (P := P) hn hg hst (hst.ev (.tmp b)) h2
  obtain ⟨vs, xs, h9, h10, h11⟩ := z5m hst rv rs' _ h4 h8
  refine ⟨v :: vs, x :: xs, ?_, ?_, h11⟩
  ·rw [List.mapM_cons]
   have hload : (asAddr (a.tmps.getD b undef) >>= fun ad => loadVar t ad : Sem Value).run P w = .ok v w := by
    simp only [Instr.loadAt, Act.eval] at h6
    simp only [Sem.run_bind] at h6 ⊢
    cases hv : a.tmps.getD b undef with
    | pointer ad =>
     cases ad with
     | some ad => rw [hv] at h6; simpa [Instr.sureAddr, asAddr] using h6
     | none => rw [hv] at h6; simp [Instr.sureAddr] at h6
    | _ => rw [hv] at h6; simp [Instr.sureAddr] at h6
   simp only [Sem.run_bind] at hload
   simp only [y6x, Sem.run_bind, hload, Result.andThen_ok, h9, Sem.run_pure]
  ·simp only [AV.oks]; exact ⟨_, _, rfl, h7, h10⟩
theorem k2l {P : Program} {fn : Func} {tmps : Array Value} {R : Ending -> World -> Prop} (Z : World -> Prop) {B : Nat}
 (hZ : ∀ w w' D, Z w -> w.grownBy w' (some D) -> B <= D -> (∃ o : Obj, w.heap[D]? = some o /\ o.isCells = false) -> Z w')
 (hfin : ∀ w, Z w -> ∃ v, (results fn tmps).run P w = .ok v w /\ R (.returned v) w) :
 ∀ (Ds : List Nat) (w : World), Ds.Nodup -> (∀ D ∈ Ds, B <= D /\ w.heap[D]? = some (.deferred (some []))) -> Z w -> LeavesInM Fence.wide 0 P fn tmps R (Ds.map x4t) .returning w
 | [], w, _, _, hz => by simp only [List.map_nil, LeavesInM, LeavesIn]; exact hfin w hz
 | D :: Ds, w, hn, hd, hz => by
  simp only [List.map_cons, LeavesInM]
  have h1 := hd D List.mem_cons_self
  rw [List.nodup_cons] at hn
  refine ⟨by simp, .inl ⟨D, _, rfl, run_takeDeferred h1.2, k2l Z hZ hfin Ds _ hn.2 (fun D' hD' => ?_) ?_⟩⟩
  ·have h2 := hd D' (List.mem_cons_of_mem _ hD')
   exact ⟨h2.1, (World.putObj_heap_other fun e => hn.1 (by rw [<- e]; exact hD')).trans h2.2⟩
  ·exact hZ _ _ D hz (grownBy_putObj' w D _) h1.1 ⟨_, h1.2, rfl⟩
theorem j1z {P : Program} {f : Nat} {fn : Func} {c : Code} {mc : j5} {rs : List k6n} {args : List AV} {s : j9} {k n : Nat} {R : AV -> j9 -> Prop}
 (hf : P.funcs[f]? = some fn) (hb : fn.body = some c) (hm : q5t P c = some mc.erase) (hn : fn.ntmps = n) (hr : fn.results.toList.mapM (k1v P) = some rs)
 (h : MWp P k mc (x0h rs R) (args ++ List.replicate (n - args.length) .junk) s) : x6 P f args s k R := by
 intro C vs hCs hCk hinv hargs
 have hlen := AV.oks_length hargs
 let C0 : Ctx := { C with ro := none, dom := C.w.heap.size, nm := false }
 refine callsIn_wide.1 (callsIn_of_wp_marks (F := Fence.wide) (n := 0) hf hb trivial ?_)
 have hst : St C0 C.β (args ++ List.replicate (n - args.length) .junk) s { tmps := vs ++ Array.replicate (fn.ntmps - vs.size) undef, defers := [] } C.w := by
  refine ⟨.nil, hCs ▸ hinv.ro none C.w.heap.size, ?_, fun i x hx => ?_⟩
  ·simp at hlen
   simp [hn, hlen]
  ·rw [hCs] at hargs
   rw [List.getElem?_append] at hx
   split at hx
   ·rename_i hi
    have hi2 : i < vs.size := by simp at hlen; omega
    have h1 : (vs ++ Array.replicate (fn.ntmps - vs.size) undef).getD i undef = vs[i] := by
     simp [Array.getD_eq_getD_getElem?, Array.getElem?_append, hi2]
    rw [h1]
    exact (AV.oks_iff.1 hargs).2 i x _ hx (by simp [hi2])
   ·have : x = .junk := by
     rw [List.getElem?_replicate] at hx
     split at hx
     ·cases hx; rfl
     ·cases hx
    subst this
    simp [AV.ok]
 refine wpIn_mono (h C0 hCk (.inr ⟨rfl, rfl, Nat.le_refl _⟩) c hm C.β _ _ hst) fun e a' w' he => ?_
 obtain ⟨C', hx, β', env', s', hst', hq⟩ := he
 have fin : k9z env' s' rs (fun xs => R (z2o xs) s') -> LeavesInM Fence.wide 0 P fn a'.tmps (fun e w' => ∃ v x β' s', e = .returned v /\ Inv C β' s' w' /\ AV.ok β' (C.forb β' s') w' x v /\ R x s') a'.defers .returning w' := fun hq => by
  obtain ⟨_, Ds, hDs, hnd, hmk⟩ := hst'.defers
  rw [hDs]
  refine k2l (B := C.w.heap.size) (fun w => Inv C0 β' s' w /\ ∀ i x, env'[i]? = some x -> AV.ok β' (C0.forb β' s') w x (a'.tmps.getD i undef)) (fun w1 w2 D hz hg hB ho => ?_) (fun w1 hz => ?_) Ds w' hnd (fun D hD => ?_) ⟨hx.inv _ _ _ hst'.inv, fun i x hi => ?_⟩
  ·have hr : ∀ r, some D = some r -> ∃ o : Obj, w1.heap[r]? = some o /\ o.isCells = false := fun r e => by cases e; exact ho
   exact ⟨hz.1.nocell hg fun r e => ⟨by cases e; exact hB, hr r e⟩, fun i x hi => AV.ok_mono (fun b o v hc hn => ⟨cell_kept hc hg hr, hn⟩) (fun _ => .refl _) _ _ (hz.2 i x hi)⟩
  ·have hst1 : St C0 β' env' s' { a' with defers := [] } w1 := ⟨.nil, hz.1, hst'.len, hz.2⟩
   obtain ⟨us, xs, h1, h2, h3⟩ := z5m hst1 fn.results.toList rs _ hr hq
   refine ⟨if h : us.toArray.size = 1 then us.toArray[0] else .tuple us.toArray, ?_, _, z2o xs, β', s', rfl, hz.1.ro', ?_, h3⟩
   ·rw [j0y, Array.mapM_eq_mapM_toList]
    simp only [Sem.run_bind, Sem.run_map]
    rw [h1]
    simp only [Result.andThen_ok, Sem.run_pure]
   ·have hl := AV.oks_length h2
    have hfb : C0.forb β' s' = C.forb β' s' := rfl
    rw [hfb] at h2
    match xs, us, h2 with
    | [x], [u], h2 =>
     simp only [AV.oks] at h2
     obtain ⟨_, _, h4, h5, h6⟩ := h2
     cases h4
     simpa [z2o] using h5
    | [], [], h2 => simp only [z2o, AV.ok]; exact ⟨#[], by simp, by simp [AV.oks]⟩
    | x :: y :: xs, u :: v :: us, h2 =>
     simp only [z2o, AV.ok]
     exact ⟨(u :: v :: us).toArray, by simp, by simpa using h2⟩
  ·obtain ⟨h1, h2, h3, h4⟩ := hmk D hD
   exact ⟨by rw [hx.dom] at h1; exact h1, (hst'.inv.blks D h2 h4).trans h3⟩
  ·have := hst'.env i x hi
   rwa [hx.forb] at this
 cases e with
 | normal => exact fin hq
 | ret => exact fin hq
 | exit id => exact hq.elim
 | goto l => exact hq.elim
 | panic ch => exact hq.elim
 | outgrown => exact hq.elim
structure t6 (P : Program) (f : Nat) (mc : j5) (n : Nat) (rs : List k6n) : Prop where
 fn : ∃ fn, P.funcs[f]? = some fn /\ fn.body.bind (q5t P) = some mc.erase /\ fn.ntmps = n /\ fn.results.toList.mapM (k1v P) = some rs
theorem t6.calls {P : Program} {f : Nat} {mc : j5} {n : Nat} {rs : List k6n} (h : t6 P f mc n rs) {args : List AV} {s : j9} {k : Nat} {R : AV -> j9 -> Prop}
 (hm : MWp P k mc (x0h rs R) (args ++ List.replicate (n - args.length) .junk) s) : x6 P f args s k R := by
 obtain ⟨fn, h1, h2, h3, h4⟩ := h.fn
 rw [bes] at h2
 obtain ⟨c, h5, h6⟩ := h2
 exact j1z h1 h5 h6 h3 h4 hm
def AV.le (x y : AV) : Prop := ∀ β O w v, AV.ok β O w x v -> AV.ok β O w y v
theorem AV.le_refl (x : AV) : AV.le x x := fun _ _ _ _ h => h
theorem AV.le_junk (x : AV) : AV.le x .junk := fun _ _ _ _ _ => by simp [AV.ok]
theorem AV.le_own {e id : Nat} {xs : List D} : AV.le (.own e id xs) (.d (.sl e none xs)) := fun _ _ _ _ h => by simp only [AV.ok] at h ⊢; exact h.1
def w8 : List AV -> List AV -> Prop
 | [], [] => True
 | x :: xs, y :: ys => AV.le x y /\ w8 xs ys
 | _, _ => False
theorem w8.get : ∀ {xs ys : List AV}, w8 xs ys -> xs.length = ys.length /\ ∀ (i : Nat) (y : AV), ys[i]? = some y -> ∃ x, xs[i]? = some x /\ AV.le x y
 | [], [], _ => by simp
 | [], _ :: _, h => h.elim
 | _ :: _, [], h => h.elim
 | x :: xs, y :: ys, h => by
  obtain ⟨h1, h2⟩ := h
  obtain ⟨h3, h4⟩ := w8.get h2
  refine ⟨by simp [h3], fun i z hz => ?_⟩
  cases i with
  | zero => simp at hz; subst hz; exact ⟨x, rfl, h1⟩
  | succ i => simpa using h4 i z (by simpa using hz)
section
variable {k : Nat} {env env' env'' : List AV} {s s' s'' : j9}
theorem y0.trans (h : y0 k env s env' s') (h2 : y0 k env' s' env'' s'') : y0 k env s env'' s'' := fun C β a w hC hst =>
 let ⟨β', h3⟩ := h C β a w hC hst; h2 C β' a w hC h3
theorem y0.kill (id : Nat) (hid : k <= id) : y0 k env s (AV.rens (y8 id) env) (p8 id s) := fun _ _ _ _ hC hst => ⟨_, hst.kill id (hC ▸ hid)⟩
theorem y0.sto (hs : ∀ id, sat s id = sat s' id) : y0 k env s env s' := fun C β a w hC hst => by
 have h1 : ∀ b o, own β s' b o ↔ own β s b o := by intro b o; unfold own; simp only [hs]
 have h2 : ∀ i b, q8 β s' i b ↔ q8 β s i b := by intro i b; unfold q8; simp only [hs]
 have m : l3q β s w β s' w := ⟨Nat.le_refl _, rfl, fun _ _ _ h _ => h, fun _ _ _ => rfl, fun b o h => .inl ((h1 b o).1 h), fun q b h => .inl ⟨q, (h2 q b).1 h⟩, fun _ => .refl _⟩
 exact ⟨β, hst.move m (fun q => by rw [<- hs]; exact (hst.inv.obs q).moves m rfl (fun _ _ => rfl) rfl) (fun p q b hp hq => hst.inv.inj p q b ((h2 p b).1 hp) ((h2 q b).1 hq))⟩
end
theorem x3g {n : Int} (h1 : -9223372036854775808 <= n) (h2 : n < 9223372036854775808) : IntKind.i64.wrap n = n := by
 unfold IntKind.wrap IntKind.bits IntKind.signed
 simp only [Bool.true_and]
 split <;> rename_i h <;> simp at h <;> omega
theorem x6g {k : IntKind} {n : Int} : cAV (.int k n) = .d (.lit (.int k n)) := rfl
theorem j9c {b : Bool} : cAV (.bool b) = .d (.lit (.bool b)) := rfl
theorem z9c {b : ByteArray} : cAV (.string b) = .d (.lit (.string b)) := rfl
theorem x6h : cAV (.slice none 0 0) = .d (.sl 0 (some true) []) := rfl
theorem j9b : cAV (.agg #[]) = .d (.agg []) := rfl
mutual
def AV.toD : AV -> Option D
 | .d x => some x
 | .own e _ xs => some (.sl e none xs)
 | .agg cs => (AV.toDs cs).map .agg
 | .junk => none
 | .ptr _ _ => none
 | .msl _ _ _ _ => none
 | .pv _ => none
 | .tup _ => none
 | .fn _ _ _ => none
 | .gow _ _ _ => none
 | .gptr _ _ _ => none
 | .ful _ _ => none
 | .dp _ => none
def AV.toDs : List AV -> Option (List D)
 | [] => some []
 | x :: xs => (AV.toD x).bind fun y => (AV.toDs xs).map (y :: ·)
end
def AV.resD : AV -> Option (List D)
 | .tup cs => AV.toDAll cs
 | _ => none
where
 AV.toDAll : List AV -> Option (List D)
 | [] => some []
 | x :: xs => (AV.toD x).bind fun y => (AV.toDAll xs).map (y :: ·)
theorem x6.mono {P : Program} {f : Nat} {args : List AV} {s : j9} {k : Nat} {R R' : AV -> j9 -> Prop} (h : x6 P f args s k R)
 (hR : ∀ x s, R x s -> ∃ y, AV.le x y /\ R' y s) : x6 P f args s k R' := fun C vs h1 h2 h3 h4 =>
 (h C vs h1 h2 h3 h4).mono fun _ _ ⟨v, x, β', s', he, hi, hx, hr⟩ => let ⟨y, hle, hr'⟩ := hR x s' hr; ⟨v, y, β', s', he, hi, hle _ _ _ _ hx, hr'⟩
def p7 (P : Program) (f : Nat) (args : List D) (r : D) : Prop := x6 P f (args.map .d) [] 0 fun x _ => x = .d r
def r9 (P : Program) (f : Nat) (args : List D) (rs : List D) : Prop := x6 P f (args.map .d) [] 0 fun x _ => x = .tup (rs.map .d)
theorem w8.oks {β : x5} {O : Own} {w : World} : ∀ {xs ys : List AV} {vs : List Value}, w8 xs ys -> AV.oks β O w xs vs -> AV.oks β O w ys vs
 | [], [], _, _, h => h
 | _ :: _, _ :: _, _, hl, h => by
  simp only [AV.oks] at h ⊢
  obtain ⟨v, r, h1, h2, h3⟩ := h
  exact ⟨v, r, h1, hl.1 _ _ _ _ h2, w8.oks hl.2 h3⟩
 | [], _ :: _, _, hl, _ => hl.elim
 | _ :: _, [], _, hl, _ => hl.elim
theorem x6.args {P : Program} {f : Nat} {args as : List AV} {s : j9} {k : Nat} {R : AV -> j9 -> Prop} (h : x6 P f as s k R) (hl : w8 args as) : x6 P f args s k R :=
 fun C vs h1 h2 h3 h4 => h C vs h1 h2 h3 (hl.oks h4)
theorem z6n {P : Program} {k0 f : Nat} {args env : List AV} {s : j9} {K : AV -> List AV -> j9 -> Prop} {as : List D} {r : D} (ha : w8 (args.map fun x => x.ren (inρ [])) (as.map .d))
 (hc : p7 P f as r) (hk : K (.d r) env s) : j9y P k0 f args env s K :=
 ⟨[], [], fun x _ => x = .d r, rfl, by simp, by simp, by simp, x6.args hc ha, by rintro x s' rfl; exact hk⟩
theorem z1l {P : Program} {k0 f : Nat} {args env : List AV} {s : j9} {K : AV -> List AV -> j9 -> Prop} {as : List D} {rs : List D} (ha : w8 (args.map fun x => x.ren (inρ [])) (as.map .d))
 (hc : r9 P f as rs) (hk : K (.tup (rs.map .d)) env s) : j9y P k0 f args env s K := by
 refine ⟨[], [], fun x _ => x = .tup (rs.map .d), rfl, by simp, by simp, by simp, x6.args hc ha, ?_⟩
 rintro x s' rfl
 have h2 : ∀ qs : List D, AV.rens (q8r ([] ++ [])) (qs.map .d) = qs.map .d := fun qs => by
  induction qs with
  | nil => rfl
  | cons d ds ih => simp only [List.map_cons, AV.rens, AV.ren, ih]
 simp only [AV.ren, h2]
 exact hk
def q0s (env : List AV) : List Nat -> List AV
 | [] => env
 | w :: ws => q0s (env.set w .junk) ws
def q5l (env : List AV) : List (Nat × AV) -> List AV
 | [] => env
 | (w, x) :: r => q5l (env.set w x) r
theorem x8a {P : Program} {k : Nat} {Q : q9j} {env : List AV} {s : j9} {x : j5} {ι : Type} (ws : List Nat) (vs : ι -> List (Nat × AV)) (S : ι -> j9) (inv : ι -> Prop) (μ : ι -> Nat) (i0 : ι) (h0 : inv i0)
 (hw : y0 k env s (q5l (q0s env ws) (vs i0)) (S i0))
 (round : ∀ i, inv i -> MWp P k x (z3k (fun env' s' => ∃ i', inv i' /\ μ i' < μ i /\ y0 k env' s' (q5l (q0s env ws) (vs i')) (S i')) Q) (q5l (q0s env ws) (vs i)) (S i)) :
 MWp P k (.loop x) Q env s := y2v (fun i => q5l (q0s env ws) (vs i)) S inv μ i0 h0 hw round
theorem z5b (x : AV) : AV.le x x ↔ True := ⟨fun _ => trivial, fun _ => AV.le_refl x⟩
theorem z5a (x : AV) : AV.le x .junk ↔ True := ⟨fun _ => trivial, fun _ => AV.le_junk x⟩
theorem j0h {e id : Nat} {xs : List D} : AV.le (.own e id xs) (.d (.sl e none xs)) ↔ True := ⟨fun _ => trivial, fun _ => AV.le_own⟩
def y0h (l : List Int) : D := .sl 1 none (l.map iD)
theorem x2f (l : List Int) : slK (.d (y0h l)) = some (1, l.map iD) := rfl
theorem z9r (l : List Int) : AV.cells (.d (y0h l)) = some [.d (y0h l)] := rfl
theorem z4e (l : List Int) : AV.acells (.d (y0h l)) = none := rfl
theorem z4k (l : List Int) : z6 (y0h l) = [y0h l] := rfl
theorem y7k {e : Nat} {nl : Option Bool} {xs : List D} : slK (.d (.sl e nl xs)) = some (e, xs) := rfl
theorem x9k {e id : Nat} {xs : List D} : slK (.own e id xs) = some (e, xs) := rfl
theorem x1m {e : Nat} {b : Bool} {xs : List D} : nlK (.d (.sl e (some b) xs)) = some b := rfl
theorem x1l {e : Nat} {xs : List D} : nlK (.d (.sl e none xs)) = none := rfl
theorem x8l {e id : Nat} {xs : List D} : nlK (.own e id xs) = none := rfl
theorem x8j {e id off n : Nat} : nlK (.msl e id off n) = some false := rfl
theorem j3f {cs : List D} : AV.cells (.d (.agg cs)) = some (cs.map .d) := rfl
theorem z9o {cs : List AV} : AV.cells (.agg cs) = some cs := rfl
theorem j3i {u : Value} : AV.cells (.d (.lit u)) = some [.d (.lit u)] := rfl
theorem j3g : AV.cells (.d .any) = some [.d .any] := rfl
theorem x0c {e : Nat} {nl : Option Bool} {xs : List D} : AV.cells (.d (.sl e nl xs)) = some [.d (.sl e nl xs)] := rfl
theorem j3l {e id : Nat} {xs : List D} : AV.cells (.own e id xs) = some [.own e id xs] := rfl
theorem j3m {id off : Nat} : AV.cells (.ptr id off) = some [.ptr id off] := rfl
theorem j3j {e id off n : Nat} : AV.cells (.msl e id off n) = some [.msl e id off n] := rfl
theorem x0b {cs : List D} : AV.cells (.pv cs) = some [.pv cs] := rfl
theorem x0a {f : Nat} {a b : List AV} : AV.cells (.fn f a b) = some [.fn f a b] := rfl
theorem z8x {cs : List D} : AV.acells (.d (.agg cs)) = some (cs.map .d) := rfl
theorem z4d {cs : List AV} : AV.acells (.agg cs) = some cs := rfl
theorem z9s {cs : List D} : z6 (.agg cs) = cs := rfl
theorem z9t {u : Value} : z6 (.lit u) = [.lit u] := rfl
theorem j3p {e : Nat} {nl : Option Bool} {xs : List D} : z6 (.sl e nl xs) = [.sl e nl xs] := rfl
theorem j8j {k : IntKind} {n : Int} : s8 (.d (.lit (.int k n))) = some n := rfl
attribute [go_sem] ev x6g j9c z9c x6h j9b d7 List.getD_cons_zero List.getD_cons_succ List.set_cons_zero List.set_cons_succ List.cons_append List.nil_append List.length_cons List.length_nil List.replicate List.map_cons List.map_nil sat j8 p8 y8 AV.rens AV.ren Ob.kill Ob.isDead l5q AV.fin AV.finAll bnd z3k z1e x0h k9z z2o w8 AV.toD AV.toDs AV.resD AV.resD.AV.toDAll q0s q5l z5b z5a j0h y7k x9k x1m x1l x8l x8j j3f z9o j3i j3g x0c j3l j3m j3j x0b x0a z8x z4d z9s z9t j3p j8j x2f z9r z4e z4k
inductive Out where
 | ok (x : AV) (env : List AV) (s : j9)
 | need (p : Prop) (o : Out)
 | br (b : Bool) (o1 o2 : Out)
 | call (f : Nat) (args env : List AV) (s : j9)
 | amb (p : Prop) (o1 o2 : Out)
 | bad
def r6q (P : Program) (k0 : Nat) (K : AV -> List AV -> j9 -> Prop) : Out -> Prop
 | .ok x env s => K x env s
 | .need p o => p /\ r6q P k0 K o
 | .br b o1 o2 => if b = true then r6q P k0 K o1 else r6q P k0 K o2
 | .call f args env s => z1m P k0 f args env s K
 | .amb p o1 o2 => (p -> r6q P k0 K o1) /\ r6q P k0 K o2
 | .bad => False
def k1x (id t : Nat) (cs env : List AV) (s : j9) : Ob -> Out
 | .dead => .ok (.ptr id 0) env (j8 s id (.obj t cs))
 | .obj _ _ => .ok (.ptr id 0) (AV.rens (y8 id) env) (j8 (p8 id s) id (.obj t (AV.rens (y8 id) cs)))
 | .tok _ _ _ => .ok (.ptr id 0) (AV.rens (y8 id) env) (j8 (p8 id s) id (.obj t (AV.rens (y8 id) cs)))
 | .gro _ _ _ _ => .ok (.ptr id 0) (AV.rens (y8 id) env) (j8 (p8 id s) id (.obj t (AV.rens (y8 id) cs)))
 | .nst _ _ _ _ => .ok (.ptr id 0) (AV.rens (y8 id) env) (j8 (p8 id s) id (.obj t (AV.rens (y8 id) cs)))
 | .prv _ _ _ => .ok (.ptr id 0) (AV.rens (y8 id) env) (j8 (p8 id s) id (.obj t (AV.rens (y8 id) cs)))
def q8o (id t e : Nat) (xs : List D) (env : List AV) (s : j9) : Ob -> Out
 | .dead => .ok (.own e id xs) env (j8 s id (.tok t e xs.length))
 | .obj _ _ => .ok (.own e id xs) (AV.rens (y8 id) env) (j8 (p8 id s) id (.tok t e xs.length))
 | .tok _ _ _ => .ok (.own e id xs) (AV.rens (y8 id) env) (j8 (p8 id s) id (.tok t e xs.length))
 | .gro _ _ _ _ => .ok (.own e id xs) (AV.rens (y8 id) env) (j8 (p8 id s) id (.tok t e xs.length))
 | .nst _ _ _ _ => .ok (.own e id xs) (AV.rens (y8 id) env) (j8 (p8 id s) id (.tok t e xs.length))
 | .prv _ _ _ => .ok (.own e id xs) (AV.rens (y8 id) env) (j8 (p8 id s) id (.tok t e xs.length))
def z5d (id t e : Nat) (xs : List D) (env : List AV) (s : j9) : Ob -> Out
 | .dead => .ok (.gow e id xs.length) env (j8 s id (.gro t e xs.length (xs.flatMap z6)))
 | .obj _ _ => .ok (.gow e id xs.length) (AV.rens (y8 id) env) (j8 (p8 id s) id (.gro t e xs.length (xs.flatMap z6)))
 | .tok _ _ _ => .ok (.gow e id xs.length) (AV.rens (y8 id) env) (j8 (p8 id s) id (.gro t e xs.length (xs.flatMap z6)))
 | .gro _ _ _ _ => .ok (.gow e id xs.length) (AV.rens (y8 id) env) (j8 (p8 id s) id (.gro t e xs.length (xs.flatMap z6)))
 | .nst _ _ _ _ => .ok (.gow e id xs.length) (AV.rens (y8 id) env) (j8 (p8 id s) id (.gro t e xs.length (xs.flatMap z6)))
 | .prv _ _ _ => .ok (.gow e id xs.length) (AV.rens (y8 id) env) (j8 (p8 id s) id (.gro t e xs.length (xs.flatMap z6)))
def z5e (id t e n : Nat) (cs env : List AV) (s : j9) : Ob -> Out
 | .dead => .ok (.msl e id 0 n) env (j8 s id (.obj t cs))
 | .obj _ _ => .ok (.msl e id 0 n) (AV.rens (y8 id) env) (j8 (p8 id s) id (.obj t cs))
 | .tok _ _ _ => .ok (.msl e id 0 n) (AV.rens (y8 id) env) (j8 (p8 id s) id (.obj t cs))
 | .gro _ _ _ _ => .ok (.msl e id 0 n) (AV.rens (y8 id) env) (j8 (p8 id s) id (.obj t cs))
 | .nst _ _ _ _ => .ok (.msl e id 0 n) (AV.rens (y8 id) env) (j8 (p8 id s) id (.obj t cs))
 | .prv _ _ _ => .ok (.msl e id 0 n) (AV.rens (y8 id) env) (j8 (p8 id s) id (.obj t cs))
def j0z (n off : Nat) (cs : List AV) : Bool -> AV
 | true => AV.mk ((cs.drop off).take n)
 | false => cs.getD off .junk
def segD (n : Nat) (cs : List D) : Bool -> D
 | true => .agg (cs.take n)
 | false => cs.headD .any
def j4z (n : Nat) (ag : Bool) (off : Nat) (env : List AV) (s : j9) : Ob -> Out
 | .obj _ cs => .need (off + n <= cs.length) (.ok (j0z n off cs ag) env s)
 | _ => .bad
def segG (n off : Nat) (cs : List D) : Bool -> D
 | true => .agg ((cs.drop off).take n)
 | false => cs.getD off .any
def j5a (n : Nat) (ag : Bool) (k off : Nat) (env : List AV) (s : j9) : Ob -> Out
 | .gro _ _ m cs => .need (m = k /\ off + n <= cs.length) (.ok (.d (segG n off cs ag)) env s)
 | .prv _ m cs => .need (m = k /\ off + n <= cs.length /\ ag = false /\ n = 1 /\ j4m (cs.getD off .junk) = false) (.ok (cs.getD off .junk) env s)
 | _ => .bad
def j0k (n : Nat) (ag : Bool) (env : List AV) (s : j9) : AV -> Out
 | .ptr id off => j4z n ag off env s (sat s id)
 | .gptr id k off => j5a n ag k off env s (sat s id)
 | .pv cs => .need (n <= cs.length) (.ok (.d (segD n cs ag)) env s)
 | _ => .bad
def z5o (n off id : Nat) (env : List AV) (s : j9) : Ob -> Option (List AV) -> Out
 | .obj t cs, some xs => .need (xs.length = n /\ off + n <= cs.length) (.ok .junk env (j8 s id (.obj t (cs.take off ++ xs ++ cs.drop (off + n)))))
 | _, _ => .bad
def z0h (n k off id e m : Nat) (cs : List AV) (env : List AV) (s : j9) : Option (List AV) -> Out
 | some xs => .need (m = k /\ xs.length = n /\ 0 < n /\ off + n <= cs.length /\ k3d xs = true) (.ok .junk env (j8 s id (.prv e m (cs.take off ++ xs ++ cs.drop (off + n)))))
 | none => .bad
def z0g (n k off id : Nat) (env : List AV) (s : j9) (X : Option (List AV)) : Ob -> Option D -> Out
 | .gro t e m cs, some d => .need (m = k /\ (z6 d).length = n /\ off + n <= cs.length) (.ok .junk env (j8 s id (.gro t e m (cs.take off ++ z6 d ++ cs.drop (off + n)))))
 | .prv e m cs, _ => z0h n k off id e m cs env s X
 | _, _ => .bad
def z3i (n : Nat) (env : List AV) (s : j9) (x : AV) : AV -> Out
 | .ptr id off => z5o n off id env s (sat s id) x.cells
 | .gptr id k off => z0g n k off id env s x.cells (sat s id) x.fin
 | _ => .bad
def binO (op : BinOp) (env : List AV) (s : j9) : AV -> AV -> Out
 | .d (.lit (.int k a)), .d (.lit (.int k' b)) => .need (kOk op k k') <| match op with
  | .add => .ok (.d (.lit (.int k (k.wrap (a + b))))) env s
  | .sub => .ok (.d (.lit (.int k (k.wrap (a - b))))) env s
  | .mul => .ok (.d (.lit (.int k (k.wrap (a * b))))) env s
  | .quo => .need (b ≠ 0) (.ok (.d (.lit (.int k (k.wrap (a.tdiv b))))) env s)
  | .rem => .need (b ≠ 0) (.ok (.d (.lit (.int k (a.tmod b)))) env s)
  | .eql => .ok (.d (bD (a == b))) env s
  | .neq => .ok (.d (bD (a != b))) env s
  | .lss => .ok (.d (bD (decide (a < b)))) env s
  | .leq => .ok (.d (bD (decide (a <= b)))) env s
  | .gtr => .ok (.d (bD (decide (b < a)))) env s
  | .geq => .ok (.d (bD (decide (b <= a)))) env s
  | .and => .ok (.d (.lit (.int k (andI k a b)))) env s
  | .or => .ok (.d (.lit (.int k (orI k a b)))) env s
  | .xor => .ok (.d (.lit (.int k (xorI k a b)))) env s
  | .andNot => .ok (.d (.lit (.int k (j8k k a b)))) env s
  | .shl => .need (0 <= b) (.ok (.d (.lit (.int k (shlI k a b)))) env s)
  | .shr => .need (0 <= b) (.ok (.d (.lit (.int k (shrI k a b)))) env s)
 | _, _ => .bad
def x6c (neg : Bool) (a b : Bool) : Bool := match neg with | true => a != b | false => a == b
def j8w (neg : Bool) (env : List AV) (s : j9) : AV -> AV -> Out
 | .d (.lit (.bool a)), .d (.lit (.bool b)) => .ok (.d (bD (x6c neg a b))) env s
 | _, _ => .bad
def y0j (neg b : Bool) : Bool := match neg with | true => !b | false => b
def j3u (neg : Bool) (env : List AV) (s : j9) : Option (Nat × List D) -> Out
 | some (_, xs) => .amb (xs = []) (.ok (.d (bD (y0j neg true))) env s) (.ok (.d (bD (y0j neg false))) env s)
 | none => .bad
def z6r (neg : Bool) (env : List AV) (s : j9) (x : AV) : Option Bool -> Out
 | some b => .ok (.d (bD (y0j neg b))) env s
 | none => j3u neg env s (slK x)
def unO (env : List AV) (s : j9) : UnOp -> AV -> Out
 | .not, .d (.lit (.bool b)) => .ok (.d (bD (!b))) env s
 | .neg, .d (.lit (.int k n)) => .ok (.d (.lit (.int k (k.wrap (0 - n))))) env s
 | _, _ => .bad
def x0e (k : IntKind) (env : List AV) (s : j9) : AV -> Out
 | .d (.lit (.int _ n)) => .ok (.d (.lit (.int k (k.wrap n)))) env s
 | _ => .bad
def x1u (env : List AV) (s : j9) (a b : AV) : AV -> Out
 | .d (.lit (.bool t)) => .br t (.ok a env s) (.ok b env s)
 | _ => .bad
def y6s (env : List AV) (s : j9) : AV -> Out
 | .ptr id off => .ok (.ptr id off) env s
 | .pv cs => .ok (.pv cs) env s
 | .fn f a b => .ok (.fn f a b) env s
 | .gptr id m off => .ok (.gptr id m off) env s
 | _ => .bad
def fadO (off : Nat) (env : List AV) (s : j9) : AV -> Out
 | .ptr id o => .ok (.ptr id (o + off)) env s
 | .pv cs => .ok (.pv (cs.drop off)) env s
 | .gptr id k o => .ok (.gptr id k (o + off)) env s
 | _ => .bad
def fldO (off n : Nat) (ag : Bool) (env : List AV) (s : j9) : Option (List AV) -> Out
 | some cs => .need (off + (match ag with | true => n | false => 1) <= cs.length) (.ok (j0z n off cs ag) env s)
 | none => .bad
def x7r (e : Nat) (n : Int) (env : List AV) (s : j9) : Option (Nat × List D) -> Out
 | some (e', xs) => .need (e' = e /\ 0 <= n /\ n < xs.length) (.ok (.pv (z6 (xs.getD n.toNat .any))) env s)
 | none => .bad
def j4o (e : Nat) (n : Int) (env : List AV) (s : j9) : AV -> Out
 | .msl e' id off len => .need (e' = e /\ 0 <= n /\ n < len) (.ok (.ptr id (off + n.toNat * e)) env s)
 | .gow e' id m => .need (e' = e /\ 0 <= n /\ n < m) (.ok (.gptr id m (n.toNat * e)) env s)
 | x => x7r e n env s (slK x)
def ixaO (e : Nat) (env : List AV) (s : j9) (x : AV) : Option Int -> Out
 | some n => j4o e n env s x
 | none => .bad
def y2k (e n : Nat) (env : List AV) (s : j9) : Option Int -> AV -> Out
 | some j, .ptr id off => .need (0 <= j /\ j < n) (.ok (.ptr id (off + j.toNat * e)) env s)
 | some j, .pv cs => .need (0 <= j /\ j < n) (.ok (.pv (cs.drop (j.toNat * e))) env s)
 | _, _ => .bad
def x7t (env : List AV) (s : j9) : Option (Nat × List D) -> Out
 | some (_, xs) => .ok (.d (iD xs.length)) env s
 | none => .bad
def y0i (env : List AV) (s : j9) : AV -> Out
 | .msl _ _ _ n => .ok (.d (iD n)) env s
 | .gow _ _ n => .ok (.d (iD n)) env s
 | x => x7t env s (slK x)
def x0y (env : List AV) (s : j9) : AV -> Out
 | .d (.lit (.string b)) => .ok (.d (iD b.size)) env s
 | _ => .bad
def x2j (x : AV) (e : Nat) (env : List AV) (s : j9) (lo : Option Int) (hi : Option Operand) : Option (Nat × List D) -> Out
 | some (e', xs) => match lo, bnd env xs.length hi with
  | some l, some h => .need ((xs = [] ∨ e' = e) /\ 0 <= l /\ l <= h /\ h <= xs.length) (.ok (.d (.sl e' (nlK x) ((xs.take h.toNat).drop l.toNat))) env s)
  | _, _ => .bad
 | none => .bad
def slcF (e : Nat) (env : List AV) (s : j9) : Option Operand -> Option Int -> Option Int -> Option (Nat × List D) -> Out
 | none, some h, some m, some (e', xs) => .need ((xs = [] ∨ e' = e) /\ h = m /\ 0 <= h /\ h <= xs.length) (.ok (.ful e' (xs.take h.toNat)) env s)
 | _, _, _, _ => .bad
def hiO (env : List AV) : Option Operand -> Option Int
 | some h => s8 (ev env h)
 | none => none
def y0m (x : AV) (e : Nat) (env : List AV) (s : j9) (lo hi : Option Operand) : Option Operand -> Out
 | none => x2j x e env s (bnd env 0 lo) hi (slK x)
 | some m => slcF e env s lo (hiO env hi) (s8 (ev env m)) (slK x)
def x2h (e n : Nat) (env : List AV) (s : j9) : AV -> Option Operand -> Option Operand -> Option Operand -> Out
 | .ptr id off, none, none, none => .ok (.msl e id off n) env s
 | .ptr id off, none, some h, none => match s8 (ev env h) with
  | some h => .need (0 <= h /\ h <= n) (.ok (.msl e id off h.toNat) env s)
  | none => .bad
 | _, _, _, _ => .bad
def j8n (t e bytes : Nat) (j : Nat) (xs ys : List D) (env : List AV) (s : j9) (ob : Ob) : Out :=
 .need (ob = .tok t e xs.length /\ (xs.length + ys.length) * bytes <= 2 ^ 47) (.ok (.own e j (xs ++ ys)) env (j8 s j (.tok t e (xs.length + ys.length))))
def x5y (t e bytes : Nat) (j n : Nat) (ys : List D) (env : List AV) (s : j9) : Ob -> Out
 | .gro t' e2 m cs => .need (t' = t /\ e2 = e /\ m = n /\ (n + ys.length) * bytes <= 2 ^ 47) (.ok (.gow e j (n + ys.length)) env (j8 s j (.gro t e (n + ys.length) (cs ++ ys.flatMap z6))))
 | _ => .bad
def j8m (id t e bytes k0 : Nat) (e2 : Nat) (ys : List D) (env : List AV) (s : j9) : AV -> Out
 | .own e' j xs => .need ((ys = [] ∨ e2 = e) /\ e' = e) (j8n t e bytes j xs ys env s (sat s j))
 | .gow e' j n => .need ((ys = [] ∨ e2 = e) /\ e' = e) (x5y t e bytes j n ys env s (sat s j))
 | .d (.sl _ (some true) []) => .need ((ys = [] ∨ e2 = e) /\ ys.length * bytes <= 2 ^ 47 /\ k0 <= id) (q8o id t e ys env s (sat s id))
 | .ful e' xs => .need ((ys = [] ∨ e2 = e) /\ e' = e /\ (xs.length + ys.length) * bytes <= 2 ^ 47) (.ok (.d (.sl e none (xs ++ ys))) env s)
 | _ => .bad
def y0e (id t e bytes k0 : Nat) (x : AV) (env : List AV) (s : j9) : Option (Nat × List D) -> Out
 | some (e2, ys) => j8m id t e bytes k0 e2 ys env s x
 | none => .bad
def extO (i : Nat) (env : List AV) (s : j9) : AV -> Out
 | .tup cs => .need (i < cs.length) (.ok (cs.getD i .junk) env s)
 | _ => .bad
def q8n (mx : Bool) (env : List AV) (s : j9) : AV -> AV -> Out
 | .d (.lit (.int k a)), .d (.lit (.int k' b)) => .need (k = k') (.ok (.d (.lit (.int k (match mx with | true => if b > a then b else a | false => if b < a then b else a)))) env s)
 | _, _ => .bad
def y0f (id t k0 : Nat) (env : List AV) (s : j9) : Option (List AV) -> Out
 | some cs => .need (k0 <= id) (k1x id t cs env s (sat s id))
 | none => .bad
def x3o (env : List AV) (s : j9) : Option (List AV) -> Out
 | some cs => .ok (AV.mk cs) env s
 | none => .bad
def bslO (id t e k0 : Nat) (env : List AV) (s : j9) : Option (List D) -> Out
 | some ds => .need ((∀ d ∈ ds, (z6 d).length = e) /\ k0 <= id) (q8o id t e ds env s (sat s id))
 | none => .bad
def x8i (id t e n : Nat) (cs env : List AV) (s : j9) : Ob -> Out
 | .dead => .ok (.msl e id 0 n) env (j8 s id (.obj t cs))
 | _ => .bad
def z5f (id t e : Nat) (ds : List D) (cs env : List AV) (s : j9) : Ob -> Out
 | .dead => .ok (.own e id ds) env (j8 s id (.nst t e ds.length cs))
 | .obj _ _ => .ok (.own e id ds) (AV.rens (y8 id) env) (j8 (p8 id s) id (.nst t e ds.length (AV.rens (y8 id) cs)))
 | .tok _ _ _ => .ok (.own e id ds) (AV.rens (y8 id) env) (j8 (p8 id s) id (.nst t e ds.length (AV.rens (y8 id) cs)))
 | .gro _ _ _ _ => .ok (.own e id ds) (AV.rens (y8 id) env) (j8 (p8 id s) id (.nst t e ds.length (AV.rens (y8 id) cs)))
 | .nst _ _ _ _ => .ok (.own e id ds) (AV.rens (y8 id) env) (j8 (p8 id s) id (.nst t e ds.length (AV.rens (y8 id) cs)))
 | .prv _ _ _ => .ok (.own e id ds) (AV.rens (y8 id) env) (j8 (p8 id s) id (.nst t e ds.length (AV.rens (y8 id) cs)))
def j9a (id t e k0 : Nat) (env : List AV) (s : j9) : Option (List D) -> Option (List AV) -> Out
 | some ds, some cs => .need ((∀ d ∈ ds, (z6 d).length = e) /\ k3d cs = true /\ k0 <= id) (z5f id t e ds cs env s (sat s id))
 | _, _ => .bad
def j2b (t e j j2 : Nat) (xs ys : List D) (env : List AV) (s : j9) : Ob -> Ob -> Out
 | .nst t1 e3 n cs, .nst t2 e4 m cs2 => .need (t1 = t /\ e3 = e /\ n = xs.length /\ e4 = e /\ m = ys.length)
  (.ok (.own e j (xs ++ ys)) env (j8 (j8 s j (.nst t e (xs.length + ys.length) (cs ++ cs2))) j2 (.nst t2 e ys.length (List.replicate cs2.length .junk))))
 | _, _ => .bad
def j8u (t e bytes : Nat) (env : List AV) (s : j9) : AV -> AV -> Out
 | .own e' j xs, .own e2 j2 ys => .need (e' = e /\ e2 = e /\ j ≠ j2 /\ ys ≠ [] /\ (xs.length + ys.length) * bytes <= 2 ^ 47) (j2b t e j j2 xs ys env s (sat s j) (sat s j2))
 | _, _ => .bad
def j8y (id t e k0 : Nat) (env : List AV) (s : j9) : Option (List D) -> Out
 | some ds => .need ((∀ d ∈ ds, (z6 d).length = e) /\ k0 <= id) (z5d id t e ds env s (sat s id))
 | none => .bad
def x1k (id t e bytes k0 : Nat) (z : List D) (env : List AV) (s : j9) : Bool -> Option Int -> Option Int -> Out
 | true, some l, some c => .need (0 <= l /\ l <= c /\ bytes * c <= 2 ^ 48 /\ c < 2 ^ 62 /\ k0 <= id) (q8o id t e [] env s (sat s id))
 | false, some l, some c => .need (0 <= l /\ l <= c /\ bytes * c <= 2 ^ 48 /\ c < 2 ^ 62 /\ k0 <= id) (z5e id t e l.toNat ((List.replicate l.toNat (z.map .d)).flatten) env s (sat s id))
 | _, _, _ => .bad
def j5l (id e bytes k0 : Nat) (z : List D) (env : List AV) (s : j9) : Bool -> Option Int -> Option Int -> Out
 | false, some l, some c => .need (0 < e /\ 0 <= l /\ l <= c /\ bytes * c <= 2 ^ 48 /\ c < 2 ^ 62 /\ k0 <= id /\ (sat s id).isDead = true) (.ok (.gow e id l.toNat) env (j8 s id (.prv e l.toNat ((List.replicate l.toNat (z.map .d)).flatten))))
 | _, _, _ => .bad
def x5c (e bytes : Nat) (env : List AV) (s : j9) : List D -> Bool -> Option Int -> Option Int -> Out
 | [zd], false, some l, some c => .need (e = 1 /\ 0 <= l /\ l <= c /\ bytes * c <= 2 ^ 48 /\ c < 2 ^ 62) (.ok (.d (.sl 1 none (List.replicate l.toNat zd))) env s)
 | _, _, _, _ => .bad
def j3c (P : Program) (args env : List AV) (s : j9) : AV -> Out
 | .fn f first cap => .need (k5d P f = true) (.call f (first ++ args ++ cap) env s)
 | _ => .bad
def b1q (P : Program) (k0 : Nat) (env : List AV) (s : j9) : MOp -> Out
 | .mv x => .ok (ev env x) env s
 | .pick c a b => x1u env s (ev env a) (ev env b) (ev env c)
 | .alloc id t z => .need (k0 <= id) (k1x id t (z.map .d) env s (sat s id))
 | .box id t x => y0f id t k0 env s (ev env x).cells
 | .boxi id _ t x => y0f id t k0 env s (ev env x).cells
 | .build z ps => x3o env s (l5q env (z.map .d) ps)
 | .bsl id t e xs => bslO id t e k0 env s (AV.finAll (xs.map (ev env)))
 | .bslg id t e xs => j8y id t e k0 env s (AV.finAll (xs.map (ev env)))
 | .bsln id t e xs => j9a id t e k0 env s (AV.finAll (xs.map (ev env))) (AV.flat e (xs.map (ev env)))
 | .appn _ t e bytes x y => j8u t e bytes env s (ev env x) (ev env y)
 | .load n ag p => j0k n ag env s (ev env p)
 | .store n p x => z3i n env s (ev env x) (ev env p)
 | .nilc x => y6s env s (ev env x)
 | .bin op x y => binO op env s (ev env x) (ev env y)
 | .binb neg x y => j8w neg env s (ev env x) (ev env y)
 | .eqnil neg x => z6r neg env s (ev env x) (nlK (ev env x))
 | .un op x => unO env s op (ev env x)
 | .conv k x => x0e k env s (ev env x)
 | .mkfn f first cap => .ok (.fn f (first.map (ev env)) (cap.map (ev env))) env s
 | .mksld _ _ e bytes z tok len cap => x5c e bytes env s z tok (s8 (ev env len)) (s8 (ev env cap))
 | .mkslp id _ e bytes z tok len cap => j5l id e bytes k0 z env s tok (s8 (ev env len)) (s8 (ev env cap))
 | .mksl id t e bytes z tok len cap => x1k id t e bytes k0 z env s tok (s8 (ev env len)) (s8 (ev env cap))
 | .slc x e lo hi mx => y0m (ev env x) e env s lo hi mx
 | .slcA p e n lo hi mx => x2h e n env s (ev env p) lo hi mx
 | .fad off p => fadO off env s (ev env p)
 | .fld off n ag x => fldO off n ag env s (ev env x).acells
 | .ixa e x i => ixaO e env s (ev env x) (s8 (ev env i))
 | .ixaA e n p i => y2k e n env s (s8 (ev env i)) (ev env p)
 | .len x => y0i env s (ev env x)
 | .lens x => x0y env s (ev env x)
 | .app id t e bytes x y => y0e id t e bytes k0 (ev env x) env s (slK (ev env y))
 | .callf f args => .call f (args.map (ev env)) env s
 | .callv g args => j3c P (args.map (ev env)) env s (ev env g)
 | .ext x i => extO i env s (ev env x)
 | .max x y => q8n true env s (ev env x) (ev env y)
 | .min x y => q8n false env s (ev env x) (ev env y)
 | .dead => .bad
theorem x5d (ρ : Nat -> Option Nat) : ∀ z : List D, AV.rens ρ (z.map .d) = z.map .d
 | [] => rfl
 | x :: xs => by simp only [List.map_cons, AV.rens, AV.ren, x5d ρ xs]
theorem k3y (ρ : Nat -> Option Nat) : ∀ z : List AV, AV.rens ρ z = z.map (AV.ren ρ)
 | [] => rfl
 | x :: xs => by simp only [List.map_cons, AV.rens, k3y ρ xs]
theorem j8r {P : Program} {k0 id t e bytes : Nat} {x y : AV} {env : List AV} {s : j9} {K : AV -> List AV -> j9 -> Prop} (h : r6q P k0 K (y0e id t e bytes k0 x env s (slK y))) :
 y1i id t e bytes k0 x y env s K := by
 unfold y1i
 cases hs : slK y with
 | none => rw [hs] at h; exact h.elim
 | some p =>
  obtain ⟨e2, ys⟩ := p
  rw [hs] at h
  simp only [y0e, j8m] at h ⊢
  split at h
  ·simp only [r6q, j8n] at h
   exact ⟨h.1.1, h.1.2, h.2.1.1, h.2.1.2, h.2.2⟩
  ·rename_i e' j n
   simp only [r6q] at h
   refine ⟨h.1.1, h.1.2, ?_⟩
   have h := h.2
   cases hq : sat s j <;> simp only [hq, x5y, r6q] at h ⊢
   exact ⟨h.1.1, h.1.2.1, h.1.2.2.1, h.1.2.2.2, h.2⟩
  ·simp only [r6q] at h
   refine ⟨h.1.1, h.1.2.1, h.1.2.2, ?_⟩
   have h := h.2
   cases hq : sat s id <;> simp only [hq, q8o, r6q, Ob.isDead, if_true, bft, if_false] at h ⊢ <;> exact h
  ·simp only [r6q] at h
   exact ⟨h.1.1, h.1.2.1, h.1.2.2, h.2⟩
  ·exact h.elim
theorem z8j {P : Program} {k0 : Nat} {m : MOp} {env : List AV} {s : j9} {K : AV -> List AV -> j9 -> Prop} (h : r6q P k0 K (b1q P k0 env s m)) : vop P k0 m env s K := by
 cases m with
 | mv x => exact h
 | pick c a b =>
  simp only [b1q, x1u, vop] at h ⊢
  split at h
  ·rename_i t ht; try rw [ht]
   simpa [Br, r6q] using h
  ·exact h.elim
 | alloc id t z =>
  simp only [b1q, r6q, vop, k7s] at h ⊢
  refine ⟨h.1, ?_⟩
  cases hs : sat s id <;> simp only [hs, k1x, r6q, Ob.isDead, if_true, bft, if_false, x5d] at h ⊢ <;> exact h.2
 | boxi id d t x =>
  simp only [b1q, vop] at h ⊢
  cases hc : (ev env x).cells with
  | none => rw [hc] at h; exact h.elim
  | some cs =>
   rw [hc] at h
   simp only [y0f, r6q, k7s] at h ⊢
   refine ⟨h.1, ?_⟩
   cases hs : sat s id <;> simp only [hs, k1x, r6q, Ob.isDead, if_true, bft, if_false, k3y] at h ⊢
   ·simpa using h.2
   all_goals exact h.2
 | box id t x =>
  simp only [b1q, vop] at h ⊢
  cases hc : (ev env x).cells with
  | none => rw [hc] at h; exact h.elim
  | some cs =>
   rw [hc] at h
   simp only [y0f, r6q, k7s] at h ⊢
   refine ⟨h.1, ?_⟩
   cases hs : sat s id <;> simp only [hs, k1x, r6q, Ob.isDead, if_true, bft, if_false, k3y] at h ⊢
   ·simpa using h.2
   all_goals exact h.2
 | build z ps =>
  simp only [b1q, vop] at h ⊢
  cases hc : l5q env (z.map .d) ps with
  | none => rw [hc] at h; exact h.elim
  | some cs => rw [hc] at h; exact h
 | bsl id t e xs =>
  simp only [b1q, vop] at h ⊢
  cases hc : AV.finAll (xs.map (ev env)) with
  | none => rw [hc] at h; exact h.elim
  | some ds =>
   rw [hc] at h
   simp only [bslO, r6q, k7s] at h ⊢
   refine ⟨h.1.1, h.1.2, ?_⟩
   cases hs : sat s id <;> simp only [hs, q8o, r6q, Ob.isDead, if_true, bft, if_false] at h ⊢ <;> exact h.2
 | bslg id t e xs =>
  simp only [b1q, vop] at h ⊢
  cases hc : AV.finAll (xs.map (ev env)) with
  | none => rw [hc] at h; exact h.elim
  | some ds =>
   rw [hc] at h
   simp only [j8y, r6q, k7s] at h ⊢
   refine ⟨h.1.1, h.1.2, ?_⟩
   cases hs : sat s id <;> simp only [hs, z5d, r6q, Ob.isDead, if_true, bft, if_false] at h ⊢ <;> exact h.2
 | load n ag p =>
  simp only [b1q, vop, q4d] at h ⊢
  cases hp : ev env p with
  | ptr id off =>
   rw [hp] at h
   simp only [j0k] at h ⊢
   cases hs : sat s id <;> rw [hs] at h <;> simp only [j4z, r6q] at h ⊢
   cases ag <;> exact h
  | pv cs => rw [hp] at h; simp only [j0k, r6q] at h ⊢; cases ag <;> exact h
  | gptr id kk off =>
   rw [hp] at h
   simp only [j0k] at h ⊢
   cases hs : sat s id <;> rw [hs] at h <;> simp only [j5a, r6q] at h ⊢
   ·cases ag <;> exact ⟨h.1.1, h.1.2, h.2⟩
   ·exact ⟨h.1.1, h.1.2.1, h.1.2.2.1, h.1.2.2.2.1, h.1.2.2.2.2, h.2⟩
  | _ => rw [hp] at h; exact h.elim
 | store n p x =>
  simp only [b1q, vop, z8c] at h ⊢
  cases hp : ev env p with
  | ptr id off =>
   rw [hp] at h
   simp only [z3i] at h ⊢
   cases hs : sat s id <;> rw [hs] at h <;> cases hc : (ev env x).cells <;> rw [hc] at h <;> simp only [z5o, r6q] at h ⊢
   exact ⟨h.1.1, h.1.2, h.2⟩
  | gptr id kk off =>
   rw [hp] at h
   simp only [z3i] at h ⊢
   cases hs : sat s id <;> rw [hs] at h <;> simp only at h ⊢
   case gro => cases hc : (ev env x).fin <;> rw [hc] at h <;> simp only [z0g, r6q] at h ⊢ <;> exact ⟨h.1.1, h.1.2.1, h.1.2.2, h.2⟩
   case prv e1 m1 cs1 =>
    have h : r6q P k0 K (z0h n kk off id e1 m1 cs1 env s (ev env x).cells) := by cases hc : (ev env x).fin <;> rw [hc] at h <;> exact h
    cases hc : (ev env x).cells <;> rw [hc] at h <;> simp only [z0h, r6q] at h ⊢
    exact ⟨h.1.1, h.1.2.1, h.1.2.2.1, h.1.2.2.2.1, h.1.2.2.2.2, h.2⟩
   all_goals (cases hc : (ev env x).fin <;> rw [hc] at h <;> simp only [z0g, r6q] at h)
  | _ => rw [hp] at h; exact h.elim
 | nilc x =>
  simp only [b1q, vop] at h ⊢
  cases hp : ev env x <;> rw [hp] at h <;> first | exact h | exact h.elim
 | bin op x y =>
  simp only [b1q, vop, binK, binO] at h ⊢
  split at h
  ·rename_i k a k' b h1 h2
   try rw [h1, h2]
   simp only [r6q] at h
   refine ⟨h.1, ?_⟩
   have h := h.2
   cases op <;> exact h
  ·exact h.elim
 | binb neg x y =>
  simp only [b1q, vop, j8w] at h ⊢
  split at h
  ·rename_i a b h1 h2
   try rw [h1, h2]
   cases neg <;> exact h
  ·exact h.elim
 | eqnil neg x =>
  simp only [b1q, vop] at h ⊢
  cases hc : nlK (ev env x) with
  | none =>
   rw [hc] at h
   simp only [z6r] at h
   cases hs : slK (ev env x) with
   | none => rw [hs] at h; exact h.elim
   | some p => rw [hs] at h; cases neg <;> exact h
  | some b => rw [hc] at h; cases neg <;> exact h
 | un op x =>
  simp only [b1q, vop, unO] at h ⊢
  split at h
  ·rename_i b h1; (try rw [h1]); exact h
  ·rename_i k n h1; (try rw [h1]); exact h
  ·exact h.elim
 | conv k x =>
  simp only [b1q, vop, x0e] at h ⊢
  split at h
  ·rename_i k' n h1; (try rw [h1]); exact h
  ·exact h.elim
 | mkfn f first cap => exact h
 | mkslp id t e bytes z tok len cap =>
  simp only [b1q, vop] at h ⊢
  generalize s8 (ev env len) = X at h ⊢
  generalize s8 (ev env cap) = Y at h ⊢
  cases tok <;> cases X <;> cases Y <;> simp only [j5l, r6q] at h ⊢ <;> first
   | exact ⟨trivial, h.1.1, h.1.2.1, h.1.2.2.1, h.1.2.2.2.1, h.1.2.2.2.2.1, h.1.2.2.2.2.2.1, h.1.2.2.2.2.2.2, h.2⟩
   | exact h
 | mksld id t e bytes z tok len cap =>
  simp only [b1q, vop] at h ⊢
  cases h1 : s8 (ev env len) with
  | none =>
   rw [h1] at h
   rcases z with _ | ⟨zd, _ | ⟨_, _⟩⟩ <;> cases tok <;> exact h.elim
  | some lv =>
   cases h2 : s8 (ev env cap) with
   | none =>
    rw [h1, h2] at h
    rcases z with _ | ⟨zd, _ | ⟨_, _⟩⟩ <;> cases tok <;> exact h.elim
   | some cv =>
    rw [h1, h2] at h
    rcases z with _ | ⟨zd, _ | ⟨_, _⟩⟩ <;> cases tok <;> first
     | exact h.elim
     | exact ⟨h.1.1, rfl, h.1.2.1, h.1.2.2.1, h.1.2.2.2.1, h.1.2.2.2.2, h.2⟩
 | mksl id t e bytes z tok len cap =>
  simp only [b1q, vop] at h ⊢
  cases h1 : s8 (ev env len) <;> cases h2 : s8 (ev env cap) <;> cases tok <;> rw [h1, h2] at h <;> simp only [x1k, r6q] at h ⊢
  ·obtain ⟨⟨a1, a2, a3, a4, a5⟩, h⟩ := h
   refine ⟨a1, a2, a3, a4, a5, ?_⟩
   cases hs : sat s id <;> simp only [hs, z5e, r6q, Ob.isDead, if_true, bft, if_false] at h ⊢ <;> exact h
  ·obtain ⟨⟨a1, a2, a3, a4, a5⟩, h⟩ := h
   refine ⟨a1, a2, a3, a4, a5, ?_⟩
   cases hs : sat s id <;> simp only [hs, q8o, r6q, Ob.isDead, if_true, bft, if_false] at h ⊢ <;> exact h
 | slc x e lo hi mx =>
  simp only [b1q, vop] at h ⊢
  cases mx with
  | some m =>
   simp only [y0m] at h
   cases lo with
   | some _ => cases hi <;> exact h.elim
   | none =>
    cases hi with
    | none => exact h.elim
    | some hh =>
     simp only [hiO] at h
     cases h1 : s8 (ev env hh) with
     | none => rw [h1] at h; exact h.elim
     | some hv =>
      cases h2 : s8 (ev env m) with
      | none => rw [h1, h2] at h; exact h.elim
      | some mv =>
       cases hs : slK (ev env x) with
       | none => rw [h1, h2, hs] at h; exact h.elim
       | some p =>
        obtain ⟨e', xs⟩ := p
        rw [h1, h2, hs] at h
        simp only [slcF, r6q] at h
        obtain ⟨⟨k1, rfl, k2, k3⟩, k4⟩ := h
        exact ⟨rfl, hh, hv, rfl, h1, h2, k1, k2, k3, k4⟩
  | none =>
   simp only [y0m] at h
   cases hs : slK (ev env x) with
   | none => rw [hs] at h; exact h.elim
   | some p =>
    obtain ⟨e', xs⟩ := p
    rw [hs] at h
    simp only [x2j] at h ⊢
    split at h
    ·rename_i l hh h1 h2
     simp only [r6q] at h
     refine ⟨h.1.1, ?_⟩
     unfold slcK
     rw [hs, h1, h2]
     exact ⟨h.1.2.1, h.1.2.2.1, h.1.2.2.2, h.2⟩
    ·exact h.elim
 | slcA p e n lo hi mx =>
  simp only [b1q, vop, x2h] at h ⊢
  split at h
  ·rename_i id off h1; (try rw [h1]); exact h
  ·rename_i id off hh h1
   try rw [h1]
   split at h
   ·rename_i h' h2; (try simp only [h2]); exact ⟨h.1.1, h.1.2, h.2⟩
   ·exact h.elim
  ·exact h.elim
 | fad off p =>
  simp only [b1q, vop] at h ⊢
  cases hp : ev env p <;> rw [hp] at h <;> first | exact h | exact h.elim
 | fld off n ag x =>
  simp only [b1q, vop] at h ⊢
  cases hc : (ev env x).acells with
  | none => rw [hc] at h; exact h.elim
  | some cs => rw [hc] at h; cases ag <;> exact h
 | ixa e x i =>
  simp only [b1q, vop, ixaK] at h ⊢
  cases hi : s8 (ev env i) with
  | none => rw [hi] at h; exact h.elim
  | some n =>
   rw [hi] at h
   simp only [ixaO] at h ⊢
   cases hx : ev env x <;> rw [hx] at h <;> simp only [j4o] at h ⊢ <;> first
    | exact ⟨h.1.1, h.1.2.1, h.1.2.2, h.2⟩
    | (
     split
     ·rename_i e' xs hs; rw [hs] at h; exact ⟨h.1.1, h.1.2.1, h.1.2.2, h.2⟩
     ·rename_i hs; rw [hs] at h; exact h.elim)
 | ixaA e n p i =>
  simp only [b1q, vop] at h ⊢
  cases hi : s8 (ev env i) <;> cases hp : ev env p <;> rw [hi, hp] at h <;> first | exact ⟨h.1.1, h.1.2, h.2⟩ | exact h.elim
 | len x =>
  simp only [b1q, vop] at h ⊢
  cases hx : ev env x <;> rw [hx] at h <;> simp only [y0i] at h ⊢ <;> first
   | exact h
   | (
    split
    ·rename_i e' xs hs; rw [hs] at h; exact h
    ·rename_i hs; rw [hs] at h; exact h.elim)
 | lens x =>
  simp only [b1q, vop, x0y] at h ⊢
  split at h
  ·rename_i b h1; (try rw [h1]); exact h
  ·exact h.elim
 | app id t e bytes x y => exact j8r h
 | appn id t e bytes x y =>
  simp only [b1q, vop, j8s] at h ⊢
  generalize ev env x = X at h ⊢
  generalize ev env y = Y at h ⊢
  unfold j8u at h
  split at h
  ·rename_i e' j xs e2 j2 ys
   simp only [r6q] at h
   refine ⟨h.1.1, h.1.2.1, h.1.2.2.1, h.1.2.2.2.1, h.1.2.2.2.2, ?_⟩
   replace h := h.2
   cases hq : sat s j <;> cases hq2 : sat s j2 <;> rw [hq, hq2] at h <;> simp only [j2b, r6q] at h ⊢ <;> first | exact ⟨h.1.1, h.1.2.1, h.1.2.2.1, h.1.2.2.2.1, h.1.2.2.2.2, h.2⟩ | exact h
  ·exact h.elim
 | bsln id t e xs =>
  simp only [b1q, vop, x6e] at h ⊢
  generalize AV.finAll (xs.map (ev env)) = X at h ⊢
  generalize AV.flat e (xs.map (ev env)) = Y at h ⊢
  unfold j9a at h
  split at h
  ·simp only [r6q] at h
   refine ⟨h.1.1, h.1.2.1, h.1.2.2, ?_⟩
   have h := h.2
   cases hs : sat s id <;> simp only [hs, z5f, r6q, Ob.isDead, if_true, bft, if_false, k3y] at h ⊢ <;> first | exact h | simpa using h
  ·exact h.elim
 | callf f args => exact h
 | callv g args =>
  simp only [b1q, vop, j3c] at h ⊢
  split at h
  ·rename_i f first cap h1; (try rw [h1]); exact h
  ·exact h.elim
 | ext x i =>
  simp only [b1q, vop, extO] at h ⊢
  split at h
  ·rename_i cs h1; (try rw [h1]); exact h
  ·exact h.elim
 | max x y =>
  simp only [b1q, vop, q8n] at h ⊢
  split at h
  ·rename_i k a k' b h1 h2; (try rw [h1, h2]); exact h
  ·exact h.elim
 | min x y =>
  simp only [b1q, vop, q8n] at h ⊢
  split at h
  ·rename_i k a k' b h1 h2; (try rw [h1, h2]); exact h
  ·exact h.elim
 | dead => exact h
def a3q (P : Program) (k0 f : Nat) (args env : List AV) (s : j9) (d : Option Nat) (R : List AV -> j9 -> Prop) : Prop :=
 z1m P k0 f args env s fun x env s => R (d7 d env x) s
def q3o (P : Program) (k0 : Nat) (R : List AV -> j9 -> Prop) (d : Option Nat) : Out -> Prop
 | .ok x env s => R (d7 d env x) s
 | .need p o => p /\ q3o P k0 R d o
 | .br b o1 o2 => if b = true then q3o P k0 R d o1 else q3o P k0 R d o2
 | .call f args env s => a3q P k0 f args env s d R
 | .amb p o1 o2 => (p -> q3o P k0 R d o1) /\ q3o P k0 R d o2
 | .bad => False
def BrO (P : Program) (k0 : Nat) (R : List AV -> j9 -> Prop) (d : Option Nat) (b : Bool) (o1 o2 : Out) : Prop :=
 if b = true then q3o P k0 R d o1 else q3o P k0 R d o2
theorem x9z {P : Program} {k0 : Nat} {R : List AV -> j9 -> Prop} {d : Option Nat} {b : Bool} {o1 o2 : Out} : q3o P k0 R d (.br b o1 o2) = BrO P k0 R d b o1 o2 := (rfl)
theorem BrO_t {P : Program} {k0 : Nat} {R : List AV -> j9 -> Prop} {d : Option Nat} {o1 o2 : Out} : BrO P k0 R d true o1 o2 = q3o P k0 R d o1 := by simp [BrO]
theorem BrO_f {P : Program} {k0 : Nat} {R : List AV -> j9 -> Prop} {d : Option Nat} {o1 o2 : Out} : BrO P k0 R d false o1 o2 = q3o P k0 R d o2 := by simp [BrO]
def vgo (P : Program) (k0 : Nat) (K : List AV -> j9 -> Prop) : List f8 -> List AV -> j9 -> Prop
 | [], env, s => K env s
 | m :: ms, env, s => match m.guard with
  | none => q3o P k0 (vgo P k0 K ms) m.dst (b1q P k0 env s m.op)
  | some (g, want) => match g with
   | none => vgo P k0 K ms (d7 m.dst env (.tup [])) s
   | some d => match env.getD d .junk with
    | .d (.lit (.bool b)) => if b = want then q3o P k0 (vgo P k0 K ms) m.dst (b1q P k0 env s m.op) else vgo P k0 K ms (d7 m.dst env (.tup [])) s
    | .tup [] => vgo P k0 K ms (d7 m.dst env (.tup [])) s
    | _ => False
def BrG (P : Program) (k0 : Nat) (K : List AV -> j9 -> Prop) (b want : Bool) (m : MOp) (d : Option Nat) (ms : List f8) (env : List AV) (s : j9) : Prop :=
 if b = want then q3o P k0 (vgo P k0 K ms) d (b1q P k0 env s m) else vgo P k0 K ms (d7 d env (.tup [])) s
section
variable {P : Program} {k0 : Nat} {K : List AV -> j9 -> Prop} {b want : Bool} {m : MOp} {d : Option Nat} {ms : List f8} {env : List AV} {s : j9}
theorem y0v : BrG P k0 K true true m d ms env s = q3o P k0 (vgo P k0 K ms) d (b1q P k0 env s m) := by simp [BrG]
theorem y0s : BrG P k0 K false false m d ms env s = q3o P k0 (vgo P k0 K ms) d (b1q P k0 env s m) := by simp [BrG]
theorem y0u : BrG P k0 K true false m d ms env s = vgo P k0 K ms (d7 d env (.tup [])) s := by simp [BrG]
theorem y0t : BrG P k0 K false true m d ms env s = vgo P k0 K ms (d7 d env (.tup [])) s := by simp [BrG]
def vgoG (P : Program) (k0 : Nat) (K : List AV -> j9 -> Prop) (want : Bool) (m : MOp) (d : Option Nat) (ms : List f8) (env : List AV) (s : j9) : AV -> Prop
 | .d (.lit (.bool b)) => BrG P k0 K b want m d ms env s
 | .tup [] => vgo P k0 K ms (d7 d env (.tup [])) s
 | _ => False
theorem x9x : vgo P k0 K [] env s = K env s := (rfl)
theorem j7c : vgo P k0 K (⟨d, m, none⟩ :: ms) env s = q3o P k0 (vgo P k0 K ms) d (b1q P k0 env s m) := (rfl)
theorem j7b {g : Nat} : vgo P k0 K (⟨d, m, some (some g, want)⟩ :: ms) env s = vgoG P k0 K want m d ms env s (env.getD g .junk) := by
 simp only [vgo]
 split
 ·rename_i b h; rw [h]; rfl
 ·rename_i h; rw [h]; rfl
 ·rename_i h h'
  unfold vgoG
  split
  ·rename_i b h2; exact absurd h2 (h b)
  ·rename_i h2; exact absurd h2 h'
  ·rfl
theorem y0a {R : List AV -> j9 -> Prop} {x : AV} : q3o P k0 R d (.ok x env s) = R (d7 d env x) s := (rfl)
theorem j7f {R : List AV -> j9 -> Prop} {p : Prop} {o : Out} : q3o P k0 R d (.need p o) = (p /\ q3o P k0 R d o) := (rfl)
def z0s (P : Program) (k0 : Nat) (R : List AV -> j9 -> Prop) (d : Option Nat) (p : Prop) (o1 o2 : Out) : Prop := (p -> q3o P k0 R d o1) /\ q3o P k0 R d o2
theorem z0s.of {P : Program} {k0 : Nat} {R : List AV -> j9 -> Prop} {d : Option Nat} {p : Prop} {o1 o2 : Out} (h1 : p -> q3o P k0 R d o1) (h2 : q3o P k0 R d o2) : z0s P k0 R d p o1 o2 := ⟨h1, h2⟩
theorem x3f {R : List AV -> j9 -> Prop} {p : Prop} {o1 o2 : Out} : q3o P k0 R d (.amb p o1 o2) = z0s P k0 R d p o1 o2 := (rfl)
theorem j7e {R : List AV -> j9 -> Prop} {f : Nat} {args : List AV} : q3o P k0 R d (.call f args env s) = a3q P k0 f args env s d R := (rfl)
end
theorem q4h {P : Program} {k0 : Nat} {R : List AV -> j9 -> Prop} {d : Option Nat} {K : AV -> List AV -> j9 -> Prop} (hK : ∀ x env s, R (d7 d env x) s -> K x env s) :
 ∀ {o : Out}, q3o P k0 R d o -> r6q P k0 K o
 | .ok x env s => fun h => hK x env s h
 | .need p o => fun h => ⟨h.1, q4h hK h.2⟩
 | .br b o1 o2 => fun h => by
  cases b with
  | true => simp only [q3o, if_true] at h; simp only [r6q, if_true]; exact q4h hK h
  | false => simp only [q3o, bft, if_false] at h; simp only [r6q, bft, if_false]; exact q4h hK h
 | .call _ _ _ _ => fun h => z9l (K := fun x env s => R (d7 d env x) s) h fun x env s => hK x env s
 | .amb p o1 o2 => fun h => ⟨fun hp => q4h hK (h.1 hp), q4h hK h.2⟩
 | .bad => fun h => h
theorem k0s {P : Program} {k0 : Nat} {K : List AV -> j9 -> Prop} : ∀ {ms : List f8} {env : List AV} {s : j9}, vgo P k0 K ms env s -> j1s P k0 ms env s K
 | [], env, s => fun h => h
 | m :: ms, env, s => fun h => by
  have step : q3o P k0 (vgo P k0 K ms) m.dst (b1q P k0 env s m.op) -> vop P k0 m.op env s fun x env s => j1s P k0 ms (d7 m.dst env x) s K :=
   fun h => z8j (q4h (fun _ _ _ h => k0s h) h)
  simp only [vgo, j1s] at h ⊢
  split
  ·rename_i hg; rw [hg] at h; exact step h
  ·rename_i g want hg
   rw [hg] at h
   cases g with
   | none => exact k0s h
   | some d =>
    simp only at h ⊢
    split
    ·rename_i b hb
     rw [hb] at h
     unfold Br
     simp only at h
     split
     ·rename_i hbw; rw [if_pos hbw] at h; exact step h
     ·rename_i hbw; rw [if_neg hbw] at h; exact k0s h
    ·rename_i hb; rw [hb] at h; exact k0s h
    ·rename_i hb hb'
     split at h
     ·rename_i b h2; exact absurd h2 (hb b)
     ·rename_i h2; exact absurd h2 hb'
     ·exact h
theorem m_go {P : Program} {k : Nat} {Q : q9j} {env : List AV} {s : j9} {ms : List f8} (h : vgo P k (Q .normal) ms env s) : MWp P k (.reg ms) Q env s := m_reg (k0s h)
theorem y2n {x : D} {env : List AV} {s : j9} : y0i env s (.d x) = x7t env s (slK (.d x)) := (rfl)
theorem x0x {e id : Nat} {xs : List D} {env : List AV} {s : j9} : y0i env s (.own e id xs) = .ok (.d (iD xs.length)) env s := (rfl)
theorem x7p {e : Nat} {n : Int} {x : D} {env : List AV} {s : j9} : j4o e n env s (.d x) = x7r e n env s (slK (.d x)) := (rfl)
theorem x0w {e id n : Nat} {env : List AV} {s : j9} : y0i env s (.gow e id n) = .ok (.d (iD n)) env s := (rfl)
theorem j4p {e e' id m : Nat} {n : Int} {env : List AV} {s : j9} : j4o e n env s (.gow e' id m) = .need (e' = e /\ 0 <= n /\ n < m) (.ok (.gptr id m (n.toNat * e)) env s) := (rfl)
theorem z4r {neg b : Bool} {env : List AV} {s : j9} {x : AV} : z6r neg env s x (some b) = .ok (.d (bD (y0j neg b))) env s := (rfl)
theorem z4p {neg : Bool} {env : List AV} {s : j9} {x : AV} : z6r neg env s x none = j3u neg env s (slK x) := (rfl)
attribute [go_sem] j5l z0h j4m z5f j9a j8u j2b x8i AV.flat z5d j8y x0w j4p segG j5a z0g x5y z4r z4p kOk x3f j3u x9x j7c j7b vgoG y0a j7f j7e x9z BrO_t BrO_f y0v y0s y0u y0t k1x q8o z5e j0z segD j4z j0k z5o z3i binO x6c j8w y0j unO x0e x1u y6s fadO fldO x7r x7p ixaO y2k x7t y2n x0x x0y x2j slcF hiO x5c y0m x2h j8n j8m y0e extO q8n y0f x3o bslO x1k j3c b1q List.drop_zero List.drop_succ_cons List.drop_nil List.take_zero List.take_succ_cons List.take_nil List.headD_cons List.append_nil true_and and_true Nat.zero_add Nat.add_zero if_true if_false Nat.le_refl
inductive Del where
 | ok (x : AV) (δ : List (Nat × Ob))
 | need (p : Prop) (o : Del)
 | br (b : Bool) (o1 o2 : Del)
 | call (f : Nat) (args : List AV)
 | bad
def x6d (ρ : Operand -> AV) (dflt : Int) : Option Operand -> Option Int
 | none => some dflt
 | some x => s8 (ρ x)
def q0j (ρ : Operand -> AV) : List AV -> List (Nat × Nat × Operand) -> Option (List AV)
 | cs, [] => some cs
 | cs, (off, n, x) :: r => match (ρ x).cells with
  | some xs => if xs.length = n /\ off + n <= cs.length then q0j ρ (cs.take off ++ xs ++ cs.drop (off + n)) r else none
  | none => none
def x4p (n : Nat) (ag : Bool) (off : Nat) : Ob -> Del
 | .obj _ cs => .need (off + n <= cs.length) (.ok (j0z n off cs ag) [])
 | _ => .bad
def x4r (n : Nat) (ag : Bool) (k off : Nat) : Ob -> Del
 | .gro _ _ m cs => .need (m = k /\ off + n <= cs.length) (.ok (.d (segG n off cs ag)) [])
 | _ => .bad
def x0z (σ : Nat -> Ob) (n : Nat) (ag : Bool) : AV -> Del
 | .ptr id off => x4p n ag off (σ id)
 | .gptr id k off => x4r n ag k off (σ id)
 | .pv cs => .need (n <= cs.length) (.ok (.d (segD n cs ag)) [])
 | _ => .bad
def j6i (n off id : Nat) : Ob -> Option (List AV) -> Del
 | .obj t cs, some xs => .need (xs.length = n /\ off + n <= cs.length) (.ok .junk [(id, (.obj t (cs.take off ++ xs ++ cs.drop (off + n))))])
 | _, _ => .bad
def j6j (n k off id : Nat) : Ob -> Option D -> Del
 | .gro t e m cs, some d => .need (m = k /\ (z6 d).length = n /\ off + n <= cs.length) (.ok .junk [(id, .gro t e m (cs.take off ++ z6 d ++ cs.drop (off + n)))])
 | _, _ => .bad
def z8d (σ : Nat -> Ob) (n : Nat) (x : AV) : AV -> Del
 | .ptr id off => j6i n off id (σ id) x.cells
 | .gptr id k off => j6j n k off id (σ id) x.fin
 | _ => .bad
def binL (op : BinOp) : AV -> AV -> Del
 | .d (.lit (.int k a)), .d (.lit (.int k' b)) => .need (kOk op k k') <| match op with
  | .add => .ok (.d (.lit (.int k (k.wrap (a + b))))) []
  | .sub => .ok (.d (.lit (.int k (k.wrap (a - b))))) []
  | .mul => .ok (.d (.lit (.int k (k.wrap (a * b))))) []
  | .quo => .need (b ≠ 0) (.ok (.d (.lit (.int k (k.wrap (a.tdiv b))))) [])
  | .rem => .need (b ≠ 0) (.ok (.d (.lit (.int k (a.tmod b)))) [])
  | .eql => .ok (.d (bD (a == b))) []
  | .neq => .ok (.d (bD (a != b))) []
  | .lss => .ok (.d (bD (decide (a < b)))) []
  | .leq => .ok (.d (bD (decide (a <= b)))) []
  | .gtr => .ok (.d (bD (decide (b < a)))) []
  | .geq => .ok (.d (bD (decide (b <= a)))) []
  | .and => .ok (.d (.lit (.int k (andI k a b)))) []
  | .or => .ok (.d (.lit (.int k (orI k a b)))) []
  | .xor => .ok (.d (.lit (.int k (xorI k a b)))) []
  | .andNot => .ok (.d (.lit (.int k (j8k k a b)))) []
  | .shl => .need (0 <= b) (.ok (.d (.lit (.int k (shlI k a b)))) [])
  | .shr => .need (0 <= b) (.ok (.d (.lit (.int k (shrI k a b)))) [])
 | _, _ => .bad
def x6b (neg : Bool) : AV -> AV -> Del
 | .d (.lit (.bool a)), .d (.lit (.bool b)) => .ok (.d (bD (x6c neg a b))) []
 | _, _ => .bad
def x4n (neg : Bool) : Option Bool -> Del
 | some b => .ok (.d (bD (y0j neg b))) []
 | none => .bad
def unL : UnOp -> AV -> Del
 | .not, .d (.lit (.bool b)) => .ok (.d (bD (!b))) []
 | .neg, .d (.lit (.int k n)) => .ok (.d (.lit (.int k (k.wrap (0 - n))))) []
 | _, _ => .bad
def x7d (k : IntKind) : AV -> Del
 | .d (.lit (.int _ n)) => .ok (.d (.lit (.int k (k.wrap n)))) []
 | _ => .bad
def x8w (a b : AV) : AV -> Del
 | .d (.lit (.bool t)) => .br t (.ok a []) (.ok b [])
 | _ => .bad
def y6r : AV -> Del
 | .ptr id off => .ok (.ptr id off) []
 | .pv cs => .ok (.pv cs) []
 | .fn f a b => .ok (.fn f a b) []
 | .gptr id m off => .ok (.gptr id m off) []
 | _ => .bad
def fadL (off : Nat) : AV -> Del
 | .ptr id o => .ok (.ptr id (o + off)) []
 | .pv cs => .ok (.pv (cs.drop off)) []
 | .gptr id k o => .ok (.gptr id k (o + off)) []
 | _ => .bad
def fldL (off n : Nat) (ag : Bool) : Option (List AV) -> Del
 | some cs => .need (off + (match ag with | true => n | false => 1) <= cs.length) (.ok (j0z n off cs ag) [])
 | none => .bad
def x7o (e : Nat) (n : Int) : Option (Nat × List D) -> Del
 | some (e', xs) => .need (e' = e /\ 0 <= n /\ n < xs.length) (.ok (.pv (z6 (xs.getD n.toNat .any))) [])
 | none => .bad
def x0s (e : Nat) (n : Int) : AV -> Del
 | .msl e' id off len => .need (e' = e /\ 0 <= n /\ n < len) (.ok (.ptr id (off + n.toNat * e)) [])
 | .gow e' id m => .need (e' = e /\ 0 <= n /\ n < m) (.ok (.gptr id m (n.toNat * e)) [])
 | x => x7o e n (slK x)
def ixaL (e : Nat) (x : AV) : Option Int -> Del
 | some n => x0s e n x
 | none => .bad
def y2j (e n : Nat) : Option Int -> AV -> Del
 | some j, .ptr id off => .need (0 <= j /\ j < n) (.ok (.ptr id (off + j.toNat * e)) [])
 | some j, .pv cs => .need (0 <= j /\ j < n) (.ok (.pv (cs.drop (j.toNat * e))) [])
 | _, _ => .bad
def x7s : Option (Nat × List D) -> Del
 | some (_, xs) => .ok (.d (iD xs.length)) []
 | none => .bad
def y2l : AV -> Del
 | .msl _ _ _ n => .ok (.d (iD n)) []
 | .gow _ _ n => .ok (.d (iD n)) []
 | x => x7s (slK x)
def x7u : AV -> Del
 | .d (.lit (.string b)) => .ok (.d (iD b.size)) []
 | _ => .bad
def x2i (ρ : Operand -> AV) (x : AV) (e : Nat) (lo : Option Int) (hi : Option Operand) : Option (Nat × List D) -> Del
 | some (e', xs) => match lo, x6d ρ xs.length hi with
  | some l, some h => .need ((xs = [] ∨ e' = e) /\ 0 <= l /\ l <= h /\ h <= xs.length) (.ok (.d (.sl e' (nlK x) ((xs.take h.toNat).drop l.toNat))) [])
  | _, _ => .bad
 | none => .bad
def y7m (e : Nat) : Option Operand -> Option Int -> Option Int -> Option (Nat × List D) -> Del
 | none, some h, some m, some (e', xs) => .need ((xs = [] ∨ e' = e) /\ h = m /\ 0 <= h /\ h <= xs.length) (.ok (.ful e' (xs.take h.toNat)) [])
 | _, _, _, _ => .bad
def hiL (ρ : Operand -> AV) : Option Operand -> Option Int
 | some h => s8 (ρ h)
 | none => none
def y0l (ρ : Operand -> AV) (x : AV) (e : Nat) (lo hi : Option Operand) : Option Operand -> Del
 | none => x2i ρ x e (x6d ρ 0 lo) hi (slK x)
 | some m => y7m e lo (hiL ρ hi) (s8 (ρ m)) (slK x)
def x2g (ρ : Operand -> AV) (e n : Nat) : AV -> Option Operand -> Option Operand -> Option Operand -> Del
 | .ptr id off, none, none, none => .ok (.msl e id off n) []
 | .ptr id off, none, some h, none => match s8 (ρ h) with
  | some h => .need (0 <= h /\ h <= n) (.ok (.msl e id off h.toNat) [])
  | none => .bad
 | _, _, _, _ => .bad
def x5x (t e bytes : Nat) (j : Nat) (xs ys : List D) (ob : Ob) : Del :=
 .need (ob = .tok t e xs.length /\ (xs.length + ys.length) * bytes <= 2 ^ 47) (.ok (.own e j (xs ++ ys)) [(j, (.tok t e (xs.length + ys.length)))])
def y1j (t e bytes : Nat) (j n : Nat) (ys : List D) : Ob -> Del
 | .gro t' e2 m cs => .need (t' = t /\ e2 = e /\ m = n /\ (n + ys.length) * bytes <= 2 ^ 47) (.ok (.gow e j (n + ys.length)) [(j, .gro t e (n + ys.length) (cs ++ ys.flatMap z6))])
 | _ => .bad
def j8l (σ : Nat -> Ob) (id t e bytes k0 : Nat) (e2 : Nat) (ys : List D) : AV -> Del
 | .own e' j xs => .need ((ys = [] ∨ e2 = e) /\ e' = e) (x5x t e bytes j xs ys (σ j))
 | .gow e' j n => .need ((ys = [] ∨ e2 = e) /\ e' = e) (y1j t e bytes j n ys (σ j))
 | .d (.sl _ (some true) []) => .need ((ys = [] ∨ e2 = e) /\ ys.length * bytes <= 2 ^ 47 /\ k0 <= id /\ (σ id).isDead = true) (.ok (.own e id ys) [(id, .tok t e ys.length)])
 | .ful e' xs => .need ((ys = [] ∨ e2 = e) /\ e' = e /\ (xs.length + ys.length) * bytes <= 2 ^ 47) (.ok (.d (.sl e none (xs ++ ys))) [])
 | _ => .bad
def x5w (σ : Nat -> Ob) (id t e bytes k0 : Nat) (x : AV) : Option (Nat × List D) -> Del
 | some (e2, ys) => j8l σ id t e bytes k0 e2 ys x
 | none => .bad
def extL (i : Nat) : AV -> Del
 | .tup cs => .need (i < cs.length) (.ok (cs.getD i .junk) [])
 | _ => .bad
def k5t (mx : Bool) : AV -> AV -> Del
 | .d (.lit (.int k a)), .d (.lit (.int k' b)) => .need (k = k') (.ok (.d (.lit (.int k (match mx with | true => if b > a then b else a | false => if b < a then b else a)))) [])
 | _, _ => .bad
def boxL (σ : Nat -> Ob) (id t k0 : Nat) : Option (List AV) -> Del
 | some cs => .need (k0 <= id /\ (σ id).isDead = true) (.ok (.ptr id 0) [(id, .obj t cs)])
 | none => .bad
def x3n : Option (List AV) -> Del
 | some cs => .ok (AV.mk cs) []
 | none => .bad
def bslL (σ : Nat -> Ob) (id t e k0 : Nat) : Option (List D) -> Del
 | some ds => .need ((∀ d ∈ ds, (z6 d).length = e) /\ k0 <= id /\ (σ id).isDead = true) (.ok (.own e id ds) [(id, .tok t e ds.length)])
 | none => .bad
def j8z (σ : Nat -> Ob) (id t e k0 : Nat) : Option (List D) -> Option (List AV) -> Del
 | some ds, some cs => .need ((∀ d ∈ ds, (z6 d).length = e) /\ k3d cs = true /\ k0 <= id /\ (σ id).isDead = true) (.ok (.own e id ds) [(id, .nst t e ds.length cs)])
 | _, _ => .bad
def x3m (t e j j2 : Nat) (xs ys : List D) : Ob -> Ob -> Del
 | .nst t1 e3 n cs, .nst t2 e4 m cs2 => .need (t1 = t /\ e3 = e /\ n = xs.length /\ e4 = e /\ m = ys.length)
  (.ok (.own e j (xs ++ ys)) [(j, .nst t e (xs.length + ys.length) (cs ++ cs2)), (j2, .nst t2 e ys.length (List.replicate cs2.length .junk))])
 | _, _ => .bad
def j8t (σ : Nat -> Ob) (t e bytes : Nat) : AV -> AV -> Del
 | .own e' j xs, .own e2 j2 ys => .need (e' = e /\ e2 = e /\ j ≠ j2 /\ ys ≠ [] /\ (xs.length + ys.length) * bytes <= 2 ^ 47) (x3m t e j j2 xs ys (σ j) (σ j2))
 | _, _ => .bad
def j8x (σ : Nat -> Ob) (id t e k0 : Nat) : Option (List D) -> Del
 | some ds => .need ((∀ d ∈ ds, (z6 d).length = e) /\ k0 <= id /\ (σ id).isDead = true) (.ok (.gow e id ds.length) [(id, .gro t e ds.length (ds.flatMap z6))])
 | none => .bad
def x1j (σ : Nat -> Ob) (id t e bytes k0 : Nat) (z : List D) : Bool -> Option Int -> Option Int -> Del
 | true, some l, some c => .need (0 <= l /\ l <= c /\ bytes * c <= 2 ^ 48 /\ c < 2 ^ 62 /\ k0 <= id /\ (σ id).isDead = true) (.ok (.own e id []) [(id, .tok t e 0)])
 | false, some l, some c => .need (0 <= l /\ l <= c /\ bytes * c <= 2 ^ 48 /\ c < 2 ^ 62 /\ k0 <= id /\ (σ id).isDead = true) (.ok (.msl e id 0 l.toNat) [(id, .obj t ((List.replicate l.toNat (z.map .d)).flatten))])
 | _, _, _ => .bad
def x5b (e bytes : Nat) : List D -> Bool -> Option Int -> Option Int -> Del
 | [zd], false, some l, some c => .need (e = 1 /\ 0 <= l /\ l <= c /\ bytes * c <= 2 ^ 48 /\ c < 2 ^ 62) (.ok (.d (.sl 1 none (List.replicate l.toNat zd))) [])
 | _, _, _, _ => .bad
def x4k (P : Program) (args : List AV) : AV -> Del
 | .fn f first cap => .need (k5d P f = true) (.call f (first ++ args ++ cap))
 | _ => .bad
def i3q (P : Program) (k0 : Nat) (ρ : Operand -> AV) (σ : Nat -> Ob) : MOp -> Del
 | .mv x => .ok (ρ x) []
 | .pick c a b => x8w (ρ a) (ρ b) (ρ c)
 | .alloc id t z => .need (k0 <= id /\ (σ id).isDead = true) (.ok (.ptr id 0) [(id, .obj t (z.map .d))])
 | .box id t x => boxL σ id t k0 (ρ x).cells
 | .boxi _ _ _ _ => .bad
 | .build z ps => x3n (q0j ρ (z.map .d) ps)
 | .bsl id t e xs => bslL σ id t e k0 (AV.finAll (xs.map ρ))
 | .bslg id t e xs => j8x σ id t e k0 (AV.finAll (xs.map ρ))
 | .bsln id t e xs => j8z σ id t e k0 (AV.finAll (xs.map ρ)) (AV.flat e (xs.map ρ))
 | .appn _ t e bytes x y => j8t σ t e bytes (ρ x) (ρ y)
 | .load n ag p => x0z σ n ag (ρ p)
 | .store n p x => z8d σ n (ρ x) (ρ p)
 | .nilc x => y6r (ρ x)
 | .bin op x y => binL op (ρ x) (ρ y)
 | .binb neg x y => x6b neg (ρ x) (ρ y)
 | .eqnil neg x => x4n neg (nlK (ρ x))
 | .un op x => unL op (ρ x)
 | .conv k x => x7d k (ρ x)
 | .mkfn f first cap => .ok (.fn f (first.map ρ) (cap.map ρ)) []
 | .mksld _ _ e bytes z tok len cap => x5b e bytes z tok (s8 (ρ len)) (s8 (ρ cap))
 | .mkslp _ _ _ _ _ _ _ _ => .bad
 | .mksl id t e bytes z tok len cap => x1j σ id t e bytes k0 z tok (s8 (ρ len)) (s8 (ρ cap))
 | .slc x e lo hi mx => y0l ρ (ρ x) e lo hi mx
 | .slcA p e n lo hi mx => x2g ρ e n (ρ p) lo hi mx
 | .fad off p => fadL off (ρ p)
 | .fld off n ag x => fldL off n ag (ρ x).acells
 | .ixa e x i => ixaL e (ρ x) (s8 (ρ i))
 | .ixaA e n p i => y2j e n (s8 (ρ i)) (ρ p)
 | .len x => y2l (ρ x)
 | .lens x => x7u (ρ x)
 | .app id t e bytes x y => x5w σ id t e bytes k0 (ρ x) (slK (ρ y))
 | .callf f args => .call f (args.map ρ)
 | .callv g args => x4k P (args.map ρ) (ρ g)
 | .ext x i => extL i (ρ x)
 | .max x y => k5t true (ρ x) (ρ y)
 | .min x y => k5t false (ρ x) (ρ y)
 | .dead => .bad
def q7g (s : j9) : List (Nat × Ob) -> j9
 | [] => s
 | (i, ob) :: r => q7g (j8 s i ob) r
def Del.out (env : List AV) (s : j9) : Del -> Out
 | .ok x δ => .ok x env (q7g s δ)
 | .need p o => .need p (o.out env s)
 | .br b o1 o2 => .br b (o1.out env s) (o2.out env s)
 | .call f args => .call f args env s
 | .bad => .bad
theorem j2g {env : List AV} {d : Int} {x : Option Operand} : x6d (ev env) d x = bnd env d x := by cases x <;> rfl
theorem k2m {env : List AV} : ∀ {ps : List (Nat × Nat × Operand)} {cs : List AV}, q0j (ev env) cs ps = l5q env cs ps
 | [], cs => rfl
 | (off, n, x) :: r, cs => by
  simp only [q0j, l5q]
  cases (ev env x).cells with
  | none => rfl
  | some xs => simp only; split <;> simp [k2m]
theorem j8p {P : Program} {k0 id t e bytes : Nat} {x : AV} {Y : Option (Nat × List D)} {env : List AV} {s : j9} {K : AV -> List AV -> j9 -> Prop} (h : r6q P k0 K ((x5w (sat s) id t e bytes k0 x Y).out env s)) :
 r6q P k0 K (y0e id t e bytes k0 x env s Y) := by
 have dead : ∀ {id : Nat}, (sat s id).isDead = true -> sat s id = .dead := fun {id} h => by cases hs : sat s id <;> simp_all [Ob.isDead]
 cases Y with
 | none => exact h
 | some p =>
  obtain ⟨e2, ys⟩ := p
  simp only [x5w, y0e, j8l, j8m] at h ⊢
  split at h
  ·simp only [x5x, j8n, Del.out, r6q, q7g] at h ⊢
   exact h
  ·rename_i e' j n
   simp only [Del.out, r6q] at h ⊢
   refine ⟨h.1, ?_⟩
   have h := h.2
   generalize sat s j = X at h ⊢
   cases X <;> exact h
  ·simp only [Del.out, r6q, q7g] at h ⊢
   rw [dead h.1.2.2.2]
   exact ⟨⟨h.1.1, h.1.2.1, h.1.2.2.1⟩, h.2⟩
  ·exact h
  ·exact h.elim
theorem j6y {P : Program} {k0 : Nat} {m : MOp} {env : List AV} {s : j9} {K : AV -> List AV -> j9 -> Prop}
 (h : r6q P k0 K ((i3q P k0 (ev env) (sat s) m).out env s)) : r6q P k0 K (b1q P k0 env s m) := by
 have dead : ∀ {id : Nat}, (sat s id).isDead = true -> sat s id = .dead := fun {id} h => by cases hs : sat s id <;> simp_all [Ob.isDead]
 cases m with
 | mv x => exact h
 | pick c a b =>
  simp only [i3q, b1q, x8w, x1u] at h ⊢
  generalize ev env c = Xc at h ⊢
  cases Xc with
  | d x => cases x with
   | lit u => cases u <;> exact h
   | _ => exact h
  | _ => exact h
 | alloc id t z =>
  simp only [i3q, b1q, Del.out, r6q, q7g] at h ⊢
  rw [dead h.1.2]
  exact ⟨h.1.1, h.2⟩
 | boxi id d t x => simp only [i3q] at h; exact h.elim
 | box id t x =>
  simp only [i3q, b1q] at h ⊢
  generalize (ev env x).cells = X at h ⊢
  cases X with
  | none => exact h
  | some cs =>
   simp only [boxL, y0f, Del.out, r6q, q7g] at h ⊢
   rw [dead h.1.2]
   exact ⟨h.1.1, h.2⟩
 | build z ps =>
  simp only [i3q, b1q, k2m] at h ⊢
  generalize l5q env (z.map .d) ps = X at h ⊢; cases X <;> exact h
 | bsl id t e xs =>
  simp only [i3q, b1q] at h ⊢
  generalize AV.finAll (xs.map (ev env)) = X at h ⊢
  cases X with
  | none => exact h
  | some ds =>
   simp only [bslL, bslO, Del.out, r6q, q7g] at h ⊢
   rw [dead h.1.2.2]
   exact ⟨⟨h.1.1, h.1.2.1⟩, h.2⟩
 | bsln id t e xs =>
  simp only [i3q, b1q] at h ⊢
  generalize AV.finAll (xs.map (ev env)) = X at h ⊢
  generalize AV.flat e (xs.map (ev env)) = Y at h ⊢
  cases X with
  | none => cases Y <;> exact h.elim
  | some ds => cases Y with
   | none => exact h.elim
   | some cs =>
    simp only [j8z, j9a, Del.out, r6q, q7g] at h ⊢
    rw [dead h.1.2.2.2]
    exact ⟨⟨h.1.1, h.1.2.1, h.1.2.2.1⟩, h.2⟩
 | appn id t e bytes x y =>
  simp only [i3q, b1q] at h ⊢
  generalize ev env x = X at h ⊢
  generalize ev env y = Y at h ⊢
  unfold j8t at h
  unfold j8u
  split at h
  ·rename_i e' j xs e2 j2 ys
   simp only [Del.out, r6q] at h ⊢
   refine ⟨h.1, ?_⟩
   have h := h.2
   generalize sat s j = A at h ⊢
   generalize sat s j2 = B at h ⊢
   cases A <;> cases B <;> exact h
  ·exact h.elim
 | bslg id t e xs =>
  simp only [i3q, b1q] at h ⊢
  generalize AV.finAll (xs.map (ev env)) = X at h ⊢
  cases X with
  | none => exact h
  | some ds =>
   simp only [j8x, j8y, Del.out, r6q, q7g] at h ⊢
   rw [dead h.1.2.2]
   exact ⟨⟨h.1.1, h.1.2.1⟩, h.2⟩
 | load n ag p =>
  simp only [i3q, b1q, x0z, j0k] at h ⊢
  generalize ev env p = Xp at h ⊢
  cases Xp with
  | ptr id off => simp only at h ⊢; generalize sat s id = X at h ⊢; cases X <;> exact h
  | gptr id kk off => simp only at h ⊢; generalize sat s id = X at h ⊢; cases X <;> first | exact h | exact h.elim
  | _ => exact h
 | store n p x =>
  simp only [i3q, b1q, z8d, z3i] at h ⊢
  generalize ev env p = Xp at h ⊢
  cases Xp with
  | ptr id off => simp only at h ⊢; generalize sat s id = X at h ⊢; generalize (ev env x).cells = Y at h ⊢; cases X <;> cases Y <;> exact h
  | gptr id kk off => simp only at h ⊢; generalize sat s id = X at h ⊢; generalize (ev env x).fin = Y at h ⊢; cases X <;> cases Y <;> first | exact h | exact h.elim
  | _ => exact h
 | nilc x => simp only [i3q, b1q] at h ⊢; generalize ev env x = X at h ⊢; cases X <;> exact h
 | bin op x y =>
  simp only [i3q, b1q, binL, binO] at h ⊢
  generalize ev env x = Xx at h ⊢
  generalize ev env y = Xy at h ⊢
  cases Xx with
  | d x1 => cases x1 with
   | lit u => cases u with
    | int k a => cases Xy with
     | d y1 => cases y1 with
      | lit v => cases v with
       | int k' b => cases op <;> exact h
       | _ => exact h
      | _ => exact h
     | _ => exact h
    | _ => exact h
   | _ => exact h
  | _ => exact h
 | binb neg x y =>
  simp only [i3q, b1q, x6b, j8w] at h ⊢
  generalize ev env x = Xx at h ⊢
  generalize ev env y = Xy at h ⊢
  cases Xx with
  | d x1 => cases x1 with
   | lit u => cases u with
    | bool a => cases Xy with
     | d y1 => cases y1 with
      | lit v => cases v <;> exact h
      | _ => exact h
     | _ => exact h
    | _ => exact h
   | _ => exact h
  | _ => exact h
 | eqnil neg x => simp only [i3q, b1q] at h ⊢; generalize nlK (ev env x) = X at h ⊢; cases X <;> first | exact h | exact h.elim
 | un op x =>
  simp only [i3q, b1q, unL, unO] at h ⊢
  generalize ev env x = X at h ⊢
  cases op <;> cases X with
  | d x1 => cases x1 with
   | lit u => cases u <;> exact h
   | _ => exact h
  | _ => exact h
 | conv k x =>
  simp only [i3q, b1q, x7d, x0e] at h ⊢
  generalize ev env x = Xx at h ⊢
  cases Xx with
  | d x1 => cases x1 with
   | lit u => cases u <;> exact h
   | _ => exact h
  | _ => exact h
 | mkfn f first cap => exact h
 | mkslp id t e bytes z tok len cap => simp only [i3q] at h; exact h.elim
 | mksld id t e bytes z tok len cap =>
  simp only [i3q, b1q] at h ⊢
  generalize s8 (ev env len) = X at h ⊢
  generalize s8 (ev env cap) = Y at h ⊢
  cases z with
  | nil => cases tok <;> cases X <;> cases Y <;> exact h
  | cons zd z => cases z <;> cases tok <;> cases X <;> cases Y <;> exact h
 | mksl id t e bytes z tok len cap =>
  simp only [i3q, b1q] at h ⊢
  generalize s8 (ev env len) = X at h ⊢
  generalize s8 (ev env cap) = Y at h ⊢
  cases tok <;> cases X <;> cases Y <;> simp only [x1j, x1k, Del.out, r6q, q7g] at h ⊢
  ·rw [dead h.1.2.2.2.2.2]; exact ⟨⟨h.1.1, h.1.2.1, h.1.2.2.1, h.1.2.2.2.1, h.1.2.2.2.2.1⟩, h.2⟩
  ·rw [dead h.1.2.2.2.2.2]; exact ⟨⟨h.1.1, h.1.2.1, h.1.2.2.1, h.1.2.2.2.1, h.1.2.2.2.2.1⟩, h.2⟩
 | slc x e lo hi mx =>
  simp only [i3q, b1q] at h ⊢
  cases mx with
  | some m =>
   simp only [y0l, y0m] at h ⊢
   generalize slK (ev env x) = X at h ⊢
   generalize s8 (ev env m) = M at h ⊢
   cases hi with
   | none => cases lo <;> cases M <;> cases X <;> exact h
   | some hh =>
    simp only [hiL, hiO] at h ⊢
    generalize s8 (ev env hh) = H at h ⊢
    cases lo <;> cases H <;> cases M <;> cases X <;> exact h
  | none =>
   simp only [y0l, y0m, j2g] at h ⊢
   generalize slK (ev env x) = X at h ⊢
   cases X with
   | none => exact h
   | some p =>
    simp only [x2i, x2j, j2g] at h ⊢
    generalize bnd env 0 lo = X at h ⊢
    generalize bnd env p.2.length hi = Y at h ⊢
    cases X <;> cases Y <;> exact h
 | slcA p e n lo hi mx =>
  simp only [i3q, b1q, x2g, x2h] at h ⊢
  generalize ev env p = X at h ⊢
  cases X <;> cases lo <;> cases hi <;> cases mx <;> first
   | exact h
   | (rename_i q; simp only at h ⊢; generalize s8 (ev env q) = Z at h ⊢; cases Z <;> exact h)
 | fad off p => simp only [i3q, b1q] at h ⊢; generalize ev env p = X at h ⊢; cases X <;> exact h
 | fld off n ag x => simp only [i3q, b1q] at h ⊢; generalize (ev env x).acells = X at h ⊢; cases X <;> exact h
 | ixa e x i =>
  simp only [i3q, b1q] at h ⊢
  generalize s8 (ev env i) = I at h ⊢
  cases I with
  | none => exact h
  | some n =>
   simp only [ixaL, ixaO] at h ⊢
   generalize ev env x = X at h ⊢
   cases X <;> simp only [x0s, j4o] at h ⊢ <;> first
    | exact h
    | (revert h; generalize slK _ = q; intro h; cases q <;> exact h)
 | ixaA e n p i => simp only [i3q, b1q] at h ⊢; generalize s8 (ev env i) = X at h ⊢; generalize ev env p = Y at h ⊢; cases X <;> cases Y <;> exact h
 | len x =>
  simp only [i3q, b1q] at h ⊢
  generalize ev env x = X at h ⊢
  cases X <;> simp only [y2l, y0i] at h ⊢ <;> first
   | exact h
   | (revert h; generalize slK _ = q; intro h; cases q <;> exact h)
 | lens x =>
  simp only [i3q, b1q, x7u, x0y] at h ⊢
  generalize ev env x = Xx at h ⊢
  cases Xx with
  | d x1 => cases x1 with
   | lit u => cases u <;> exact h
   | _ => exact h
  | _ => exact h
 | app id t e bytes x y => exact j8p h
 | callf f args => exact h
 | callv g args =>
  simp only [i3q, b1q] at h ⊢
  generalize ev env g = X at h ⊢; cases X <;> exact h
 | ext x i => simp only [i3q, b1q] at h ⊢; generalize ev env x = X at h ⊢; cases X <;> exact h
 | max x y =>
  simp only [i3q, b1q, k5t, q8n] at h ⊢
  generalize ev env x = Xx at h ⊢
  generalize ev env y = Xy at h ⊢
  cases Xx with
  | d x1 => cases x1 with
   | lit u => cases u with
    | int k a => cases Xy with
     | d y1 => cases y1 with
      | lit v => cases v <;> exact h
      | _ => exact h
     | _ => exact h
    | _ => exact h
   | _ => exact h
  | _ => exact h
 | min x y =>
  simp only [i3q, b1q, k5t, q8n] at h ⊢
  generalize ev env x = Xx at h ⊢
  generalize ev env y = Xy at h ⊢
  cases Xx with
  | d x1 => cases x1 with
   | lit u => cases u with
    | int k a => cases Xy with
     | d y1 => cases y1 with
      | lit v => cases v <;> exact h
      | _ => exact h
     | _ => exact h
    | _ => exact h
   | _ => exact h
  | _ => exact h
 | dead => exact h
def k5x : Operand -> List Nat
 | .tmp t => [t]
 | _ => []
def k9r (xs : List Operand) : List Nat := xs.flatMap k5x
def j0o : Option Operand -> List Nat
 | some x => k5x x
 | none => []
def i0q : MOp -> List Nat
 | .mv x | .nilc x | .un _ x | .conv _ x | .fad _ x | .fld _ _ _ x | .len x | .lens x | .ext x _ | .box _ _ x | .boxi _ _ _ x | .load _ _ x | .eqnil _ x => k5x x
 | .pick c a b => k5x c ++ k5x a ++ k5x b
 | .store _ p x => k5x p ++ k5x x
 | .bin _ x y | .binb _ x y | .max x y | .min x y | .ixa _ x y | .ixaA _ _ x y | .app _ _ _ _ x y | .appn _ _ _ _ x y => k5x x ++ k5x y
 | .mksl _ _ _ _ _ _ l c => k5x l ++ k5x c
 | .mksld _ _ _ _ _ _ l c => k5x l ++ k5x c
 | .mkslp _ _ _ _ _ _ l c => k5x l ++ k5x c
 | .slc x _ lo hi m => k5x x ++ j0o lo ++ j0o hi ++ j0o m
 | .slcA x _ _ lo hi _ => k5x x ++ j0o lo ++ j0o hi
 | .build _ ps => k9r (ps.map (·.2.2))
 | .bsl _ _ _ xs | .bslg _ _ _ xs | .bsln _ _ _ xs => k9r xs
 | .mkfn _ f c => k9r f ++ k9r c
 | .callf _ xs => k9r xs
 | .callv g xs => k5x g ++ k9r xs
 | .alloc .. | .dead => []
def q5p (ρ : Operand -> AV) : MOp -> List Nat
 | .appn _ _ _ _ x y => match ρ x, ρ y with | .own _ j _, .own _ j2 _ => [j, j2] | _, _ => []
 | .bsln id _ _ _ => [id]
 | .load _ _ p => match ρ p with | .ptr id _ => [id] | .gptr id _ _ => [id] | _ => []
 | .store _ p _ => match ρ p with | .ptr id _ => [id] | .gptr id _ _ => [id] | _ => []
 | .alloc id _ _ | .box id _ _ | .bsl id _ _ _ | .bslg id _ _ _ | .mksl id _ _ _ _ _ _ _ => [id]
 | .app id _ _ _ x _ => match ρ x with | .own _ j _ => [j] | .gow _ j _ => [j] | _ => [id]
 | _ => []
theorem z9a {k0 id t e bytes : Nat} {X : AV} {p : Option (Nat × List D)} {σ σ' : Nat -> Ob}
 (hf : ∀ i ∈ (match X with | .own _ j _ => [j] | .gow _ j _ => [j] | _ => [id]), σ' i = σ i) : x5w σ' id t e bytes k0 X p = x5w σ id t e bytes k0 X p := by
 unfold x5w
 cases p with
 | none => rfl
 | some p =>
  simp only
  unfold j8l
  cases X with
  | own e' j xs => have hj := hf j (by simp); simp only [hj]
  | gow e' j n => have hj := hf j (by simp); simp only [hj]
  | d x1 =>
   have hj := hf id (by simp)
   cases x1 with
   | sl e1 nl xs => cases nl with
    | none => rfl
    | some b => cases b <;> cases xs <;> first | rfl | simp only [hj]
   | _ => rfl
  | _ => rfl
theorem j1d {P : Program} {k0 : Nat} {m : MOp} {ρ ρ' : Operand -> AV} {σ σ' : Nat -> Ob} (hc : ∀ o : Operand, k5x o = [] -> ρ' o = ρ o) (hr : ∀ t ∈ i0q m, ρ' (.tmp t) = ρ (.tmp t))
 (hf : ∀ id ∈ q5p ρ m, σ' id = σ id) : i3q P k0 ρ' σ' m = i3q P k0 ρ σ m := by
 have one' : ∀ o : Operand, (∀ t ∈ k5x o, ρ' (.tmp t) = ρ (.tmp t)) -> ρ' o = ρ o := fun o h => by
  cases o with
  | tmp t => exact h t (by simp [k5x])
  | _ => exact hc _ rfl
 have many : ∀ xs : List Operand, (∀ t ∈ k9r xs, ρ' (.tmp t) = ρ (.tmp t)) -> xs.map ρ' = xs.map ρ := fun xs h =>
  List.map_congr_left fun o ho => one' o fun t ht => h t (List.mem_flatMap.2 ⟨o, ho, ht⟩)
 have opt : ∀ (x : Option Operand) (d : Int), (∀ t ∈ j0o x, ρ' (.tmp t) = ρ (.tmp t)) -> x6d ρ' d x = x6d ρ d x := fun x d h => by
  cases x with
  | none => rfl
  | some o => simp only [x6d]; rw [one' o h]
 cases m with
 | mv x | nilc x | un _ x | conv _ x | fad _ x | fld _ _ _ x | len x | lens x | ext x _ | eqnil _ x => simp only [i0q] at hr; simp only [i3q]; rw [one' x hr]
 | boxi id d t x => rfl
 | box id t x => simp only [i0q] at hr; simp only [q5p] at hf; simp only [i3q, boxL]; rw [one' x hr, hf id (by simp)]
 | pick c a b =>
  simp only [i0q, List.mem_append] at hr
  simp only [i3q]
  rw [one' c fun t h => hr t (.inl (.inl h)), one' a fun t h => hr t (.inl (.inr h)), one' b fun t h => hr t (.inr h)]
 | alloc id t z => simp only [q5p] at hf; simp only [i3q]; rw [hf id (by simp)]
 | build z ps =>
  simp only [i0q] at hr
  simp only [i3q]
  have : ∀ (ps : List (Nat × Nat × Operand)) (cs : List AV), (∀ t ∈ k9r (ps.map (·.2.2)), ρ' (.tmp t) = ρ (.tmp t)) -> q0j ρ' cs ps = q0j ρ cs ps := by
   intro ps
   induction ps with
   | nil => intro cs _; rfl
   | cons p ps ih =>
    obtain ⟨off, n, x⟩ := p
    intro cs h
    simp only [List.map_cons, k9r, List.flatMap_cons, List.mem_append] at h
    simp only [q0j]
    rw [one' x fun t ht => h t (.inl ht)]
    cases (ρ x).cells with
    | none => rfl
    | some xs => simp only; split <;> first | exact ih _ (fun t ht => h t (.inr ht)) | rfl
  rw [this ps _ hr]
 | bsl id t e xs => simp only [i0q] at hr; simp only [q5p] at hf; simp only [i3q, bslL]; rw [many xs hr, hf id (by simp)]
 | bsln id t e xs => simp only [i0q] at hr; simp only [q5p] at hf; simp only [i3q, j8z]; rw [many xs hr, hf id (by simp)]
 | appn id t e bytes x y =>
  simp only [i0q, List.mem_append] at hr
  simp only [q5p] at hf
  simp only [i3q]
  rw [one' x fun t ht => hr t (.inl ht), one' y fun t ht => hr t (.inr ht)]
  revert hf
  generalize ρ x = X
  generalize ρ y = Y
  intro hf
  unfold j8t
  split
  ·rename_i e' j xs e2 j2 ys
   rw [hf j (by simp), hf j2 (by simp)]
  ·rfl
 | bslg id t e xs => simp only [i0q] at hr; simp only [q5p] at hf; simp only [i3q, j8x]; rw [many xs hr, hf id (by simp)]
 | load n ag p =>
  simp only [i0q] at hr
  simp only [q5p] at hf
  simp only [i3q]
  rw [one' p hr]
  unfold x0z
  cases hp : ρ p with
  | ptr id off => rw [hp] at hf; simp only; rw [hf id (by simp)]
  | gptr id kk off => rw [hp] at hf; simp only; rw [hf id (by simp)]
  | _ => rfl
 | store n p x =>
  simp only [i0q, List.mem_append] at hr
  simp only [q5p] at hf
  simp only [i3q]
  rw [one' p fun t h => hr t (.inl h), one' x fun t h => hr t (.inr h)]
  unfold z8d
  cases hp : ρ p with
  | ptr id off => rw [hp] at hf; simp only; rw [hf id (by simp)]
  | gptr id kk off => rw [hp] at hf; simp only; rw [hf id (by simp)]
  | _ => rfl
 | bin _ x y | binb _ x y | max x y | min x y | ixa _ x y | ixaA _ _ x y =>
  simp only [i0q, List.mem_append] at hr
  simp only [i3q]
  rw [one' x fun t h => hr t (.inl h), one' y fun t h => hr t (.inr h)]
 | mkfn f first cap =>
  simp only [i0q, List.mem_append] at hr
  simp only [i3q]
  rw [many first fun t h => hr t (.inl h), many cap fun t h => hr t (.inr h)]
 | mkslp id t e bytes z tok l c => rfl
 | mksld id t e bytes z tok l c =>
  simp only [i0q, List.mem_append] at hr
  simp only [i3q]
  rw [one' l fun t h => hr t (.inl h), one' c fun t h => hr t (.inr h)]
 | mksl id t e bytes z tok l c =>
  simp only [i0q, List.mem_append] at hr
  simp only [q5p] at hf
  simp only [i3q, x1j]
  rw [one' l fun t h => hr t (.inl h), one' c fun t h => hr t (.inr h), hf id (by simp)]
 | slc x e lo hi mx =>
  simp only [i0q, List.mem_append] at hr
  simp only [i3q]
  rw [one' x fun t h => hr t (.inl (.inl (.inl h)))]
  cases mx with
  | some m =>
   simp only [y0l]
   rw [one' m fun t h => hr t (.inr h)]
   cases hi with
   | none => rfl
   | some hh => simp only [hiL]; rw [one' hh fun t h => hr t (.inl (.inr h))]
  | none =>
   simp only [y0l]
   rw [opt lo 0 fun t h => hr t (.inl (.inl (.inr h)))]
   cases slK (ρ x) with
   | none => rfl
   | some p => simp only [x2i]; rw [opt hi _ fun t h => hr t (.inl (.inr h))]
 | slcA x e n lo hi mx =>
  simp only [i0q, List.mem_append] at hr
  simp only [i3q, x2g]
  rw [one' x fun t h => hr t (.inl (.inl h))]
  cases ρ x <;> cases lo <;> cases hi <;> cases mx <;> first
   | rfl
   | (rename_i q; simp only; rw [one' q fun t h => hr t (.inr h)])
 | app id t e bytes x y =>
  simp only [i0q, List.mem_append] at hr
  simp only [i3q]
  rw [one' x fun t h => hr t (.inl h), one' y fun t h => hr t (.inr h)]
  exact z9a hf
 | callf f xs => simp only [i0q] at hr; simp only [i3q]; rw [many xs hr]
 | callv g xs =>
  simp only [i0q, List.mem_append] at hr
  simp only [i3q]
  rw [one' g fun t h => hr t (.inl h), many xs fun t h => hr t (.inr h)]
 | dead => rfl
def k1n : List (Nat × Ob) -> Nat -> Option Ob
 | [], _ => none
 | (i, ob) :: r, id => match k1n r id with
  | some x => some x
  | none => if id = i then some ob else none
theorem z0b : ∀ (δ : List (Nat × Ob)) (s : j9) (id : Nat), sat (q7g s δ) id = (k1n δ id).getD (sat s id)
 | [], _, _ => rfl
 | (i, ob) :: r, s, id => by
  rw [q7g, z0b r, u5, k1n]
  cases k1n r id with
  | some x => rfl
  | none => by_cases h : id = i <;> simp [h]
theorem z1s : ∀ {δ : List (Nat × Ob)} {id : Nat}, (k1n δ id).isSome = true -> id ∈ δ.map (·.1)
 | [], _, h => by simp [k1n] at h
 | (i, ob) :: r, id, h => by
  simp only [k1n] at h
  cases hr : k1n r id with
  | some x => exact List.mem_cons_of_mem _ (z1s (by rw [hr]; rfl))
  | none =>
   rw [hr] at h
   by_cases hi : id = i
   ·simp [hi]
   ·simp [hi] at h
def scσ (σ : Nat -> Ob) (pr mp : List (Nat × Nat)) : j9 := mp.map fun (c, j) => (c, (σ j).ren (inρ pr))
def obΔ (t : j9) (all mp : List (Nat × Nat)) : List (Nat × Ob) := mp.map fun (c, j) => (j, (sat t c).ren (q8r all))
theorem k7w {t : j9} {all : List (Nat × Nat)} : ∀ {mp : List (Nat × Nat)} {s : j9}, q5c s t mp all = q7g s (obΔ t all mp)
 | [], _ => rfl
 | (c, j) :: r, s => by simp only [q5c, obΔ, List.map_cons, q7g]; exact k7w
def y1s (P : Program) (k0 : Nat) (σ : Nat -> Ob) (f : Nat) (args : List AV) (K : AV -> List (Nat × Ob) -> List Nat -> Prop) : Prop :=
 (∃ as : List D, w8 (args.map fun x => x.ren (inρ [])) (as.map .d) /\ ((∃ r, p7 P f as r /\ K (.d r) [] []) ∨ ∃ rs : List D, r9 P f as rs /\ K (.tup (rs.map .d)) [] [])) ∨
 ∃ (pr nw : List (Nat × Nat)) (y : AV) (t : j9), pr.map (·.1) = List.range pr.length /\ ((pr ++ nw).map (·.1)).Nodup /\ ((pr ++ nw).map (·.2)).Nodup /\ (∀ p ∈ nw, σ p.2 = .dead /\ k0 <= p.2) /\
  x6 P f (args.map fun x => x.ren (inρ pr)) (scσ σ pr pr) pr.length (fun x s' => x = y /\ s' = t) /\ K (y.ren (q8r (pr ++ nw))) (obΔ t (pr ++ nw) (pr ++ nw)) ((pr ++ nw).map (·.2))
def z4m (P : Program) (k0 : Nat) (σ : Nat -> Ob) (R : AV -> List (Nat × Ob) -> List Nat -> Prop) : Del -> Prop
 | .ok x δ => R x δ []
 | .need p o => p /\ z4m P k0 σ R o
 | .br b o1 o2 => if b = true then z4m P k0 σ R o1 else z4m P k0 σ R o2
 | .call f args => y1s P k0 σ f args R
 | .bad => False
theorem k3k {P : Program} {k0 : Nat} {σ : Nat -> Ob} {R : AV -> List (Nat × Ob) -> List Nat -> Prop} : ∀ {o : Del}, z4m P k0 σ R o ->
 ∃ x δ ex, z4m P k0 σ (fun x' δ' e' => x' = x /\ δ' = δ /\ e' = ex) o /\ R x δ ex
 | .ok x δ, h => ⟨x, δ, [], ⟨rfl, rfl, rfl⟩, h⟩
 | .need p o, h => by obtain ⟨hp, h⟩ := h; obtain ⟨x, δ, ex, h1, h2⟩ := k3k h; exact ⟨x, δ, ex, ⟨hp, h1⟩, h2⟩
 | .br b o1 o2, h => by
  simp only [z4m] at h ⊢
  split at h
  ·rename_i hb; obtain ⟨x, δ, ex, h1, h2⟩ := k3k h; exact ⟨x, δ, ex, by rw [if_pos hb]; exact h1, h2⟩
  ·rename_i hb; obtain ⟨x, δ, ex, h1, h2⟩ := k3k h; exact ⟨x, δ, ex, by rw [if_neg hb]; exact h1, h2⟩
 | .call f args, h => by
  rcases h with ⟨ds, h1, h | h⟩ | ⟨pr, nw, y, t, h1, h2, h3, h4, h5, h6⟩
  ·obtain ⟨r, h2, h3⟩ := h; exact ⟨_, _, _, .inl ⟨ds, h1, .inl ⟨r, h2, rfl, rfl, rfl⟩⟩, h3⟩
  ·obtain ⟨r, h2, h3⟩ := h; exact ⟨_, _, _, .inl ⟨ds, h1, .inr ⟨r, h2, rfl, rfl, rfl⟩⟩, h3⟩
  ·exact ⟨_, _, _, .inr ⟨pr, nw, y, t, h1, h2, h3, h4, h5, rfl, rfl, rfl⟩, h6⟩
 | .bad, h => h.elim
theorem q6z {P : Program} {k0 : Nat} {σ σ' : Nat -> Ob} {x : AV} {δ : List (Nat × Ob)} {ex : List Nat} (hs : ∀ id ∈ ex, σ' id = σ id) : ∀ {o : Del},
 z4m P k0 σ (fun x' δ' e' => x' = x /\ δ' = δ /\ e' = ex) o -> z4m P k0 σ' (fun x' δ' e' => x' = x /\ δ' = δ /\ e' = ex) o
 | .ok x δ, h => h
 | .need p o, h => ⟨h.1, q6z hs h.2⟩
 | .br b o1 o2, h => by
  simp only [z4m] at h ⊢
  split at h
  ·rename_i hb; rw [if_pos hb]; exact q6z hs h
  ·rename_i hb; rw [if_neg hb]; exact q6z hs h
 | .call f args, h => by
  rcases h with h | ⟨pr, nw, y, t, h1, h2, h3, h4, h5, h6, h7, h8⟩
  ·exact .inl h
  ·subst h8
   refine .inr ⟨pr, nw, y, t, h1, h2, h3, fun p hp => ?_, ?_, h6, h7, rfl⟩
   ·rw [hs p.2 (List.mem_map.2 ⟨p, List.mem_append_right _ hp, rfl⟩)]; exact h4 p hp
   ·have : scσ σ' pr pr = scσ σ pr pr := List.map_congr_left fun p hp => by
     show (p.1, (σ' p.2).ren (inρ pr)) = (p.1, (σ p.2).ren (inρ pr))
     rw [hs p.2 (List.mem_map.2 ⟨p, List.mem_append_left _ hp, rfl⟩)]
    rw [this]; exact h5
 | .bad, h => h.elim
theorem q9s {P : Program} {k0 : Nat} {R : AV -> List (Nat × Ob) -> List Nat -> Prop} {K : AV -> List AV -> j9 -> Prop} {env : List AV} {s : j9}
 (hK : ∀ x δ ex, R x δ ex -> K x env (q7g s δ)) : ∀ {o : Del}, z4m P k0 (sat s) R o -> r6q P k0 K (o.out env s)
 | .ok x δ, h => hK x δ _ h
 | .need p o, h => ⟨h.1, q9s hK h.2⟩
 | .br b o1 o2, h => by
  simp only [z4m] at h
  simp only [Del.out, r6q]
  split at h
  ·rename_i hb; rw [if_pos hb]; exact q9s hK h
  ·rename_i hb; rw [if_neg hb]; exact q9s hK h
 | .call f args, h => by
  rcases h with ⟨ds, h1, h | h⟩ | ⟨pr, nw, y, t, h1, h2, h3, h4, h5, h6⟩
  ·obtain ⟨r, h2, h3⟩ := h; exact k1l (z6n h1 h2 (hK _ _ _ h3))
  ·obtain ⟨r, h2, h3⟩ := h; exact k1l (z1l h1 h2 (hK _ _ _ h3))
  ·refine k1l ⟨pr, nw, _, h1, h2, h3, h4, h5, ?_⟩
   rintro x s' ⟨rfl, rfl⟩
   rw [k7w]
   exact hK _ _ _ h6
 | .bad, h => h.elim
def gd (m : f8) (env : List AV) : Option Bool := match m.guard with
 | none => some true
 | some (none, _) => none
 | some (some d, want) => match env.getD d .junk with
  | .d (.lit (.bool b)) => some (b == want)
  | .tup [] => some false
  | _ => none
def vdr (P : Program) (k0 : Nat) (F : List (List Nat × List Nat) -> List AV -> j9 -> Prop) : List f8 -> List (List Nat × List Nat) -> List AV -> j9 -> Prop
 | [], acc, env, s => F acc env s
 | m :: ms, acc, env, s => match gd m env with
  | none => False
  | some true => z4m P k0 (sat s) (fun x δ ex => vdr P k0 F ms ((ex ++ q5p (ev env) m.op, δ.map (·.1)) :: acc) (d7 m.dst env x) (q7g s δ)) (i3q P k0 (ev env) (sat s) m.op)
  | some false => vdr P k0 F ms (([], []) :: acc) (d7 m.dst env (.tup [])) s
def x5u (P : Program) (k0 : Nat) (m : f8) (env : List AV) (s : j9) (x : AV) (δ : List (Nat × Ob)) (ft : List Nat × List Nat) : Prop :=
 (gd m env = some true /\ ∃ ex, z4m P k0 (sat s) (fun x' δ' e' => x' = x /\ δ' = δ /\ e' = ex) (i3q P k0 (ev env) (sat s) m.op) /\ ft = (ex ++ q5p (ev env) m.op, δ.map (·.1))) ∨
 (gd m env = some false /\ x = .tup [] /\ δ = [] /\ ft = ([], []))
def Chn (P : Program) (k0 : Nat) (F : List (List Nat × List Nat) -> List AV -> j9 -> Prop) (ms : List f8) (acc : List (List Nat × List Nat)) (env : List AV) (s : j9) : Prop :=
 ∃ (x : Nat -> AV) (δ : Nat -> List (Nat × Ob)) (ft : Nat -> List Nat × List Nat) (E : Nat -> List AV) (S : Nat -> j9), E 0 = env /\ S 0 = s /\
  (∀ i m, ms[i]? = some m -> x5u P k0 m (E i) (S i) (x i) (δ i) (ft i) /\ E (i + 1) = d7 m.dst (E i) (x i) /\ S (i + 1) = q7g (S i) (δ i)) /\
  F (((List.range ms.length).map ft).reverse ++ acc) (E ms.length) (S ms.length)
theorem Chn.cons {P : Program} {k0 : Nat} {F : List (List Nat × List Nat) -> List AV -> j9 -> Prop} {m : f8} {ms : List f8} {acc : List (List Nat × List Nat)} {env : List AV} {s : j9}
 {x0 : AV} {δ0 : List (Nat × Ob)} {f0 : List Nat × List Nat} (hs : x5u P k0 m env s x0 δ0 f0) (h : Chn P k0 F ms (f0 :: acc) (d7 m.dst env x0) (q7g s δ0)) : Chn P k0 F (m :: ms) acc env s := by
 obtain ⟨x, δ, ft, E, S, hE, hS, h1, h2⟩ := h
 refine ⟨fun i => Nat.casesOn i x0 x, fun i => Nat.casesOn i δ0 δ, fun i => Nat.casesOn i f0 ft, fun i => Nat.casesOn i env E, fun i => Nat.casesOn i s S, rfl, rfl, fun i m' hi => ?_, ?_⟩
 ·cases i with
  | zero =>
   simp only [List.getElem?_cons_zero, Option.some.injEq] at hi
   subst hi
   exact ⟨hs, hE, hS⟩
  | succ i => exact h1 i m' (by simpa using hi)
 ·have : ((List.range (m :: ms).length).map fun i => (Nat.casesOn i f0 ft : List Nat × List Nat)).reverse ++ acc = ((List.range ms.length).map ft).reverse ++ (f0 :: acc) := by
   rw [List.length_cons, List.range_succ_eq_map, List.map_cons, List.map_map, List.reverse_cons, laa]
   rfl
  rw [this]
  exact h2
theorem k6m {P : Program} {k0 : Nat} {F : List (List Nat × List Nat) -> List AV -> j9 -> Prop} : ∀ {ms : List f8} {acc : List (List Nat × List Nat)} {env : List AV} {s : j9},
 vdr P k0 F ms acc env s -> Chn P k0 F ms acc env s
 | [], acc, env, s, h => ⟨fun _ => .junk, fun _ => [], fun _ => ([], []), fun _ => env, fun _ => s, rfl, rfl, fun i m hi => by simp at hi, h⟩
 | m :: ms, acc, env, s, h => by
  simp only [vdr] at h
  split at h
  ·exact h.elim
  ·rename_i hg
   obtain ⟨x0, δ0, ex, h1, h2⟩ := k3k h
   exact Chn.cons (.inl ⟨hg, ex, h1, rfl⟩) (k6m h2)
  ·rename_i hg
   exact Chn.cons (x0 := .tup []) (δ0 := []) (.inr ⟨hg, rfl, rfl, rfl⟩) (k6m h)
def gl {β : Type} (f : Nat -> Option β) (L : Nat -> Bool) (b : β) : Nat -> β
 | 0 => b
 | n + 1 => if L n = true then (f n).getD (gl f L b n) else gl f L b n
theorem q3e {β : Type} {f : Nat -> Option β} {L L' : Nat -> Bool} {b : β} : ∀ {n : Nat}, (∀ j, j < n -> (f j).isSome = true -> L j = L' j) -> gl f L b n = gl f L' b n
 | 0, _ => rfl
 | n + 1, h => by
  have ih := q3e (b := b) (n := n) fun j hj => h j (by omega)
  simp only [gl]
  rw [ih]
  cases hf : f n with
  | none => simp
  | some v => rw [h n (by omega) (by rw [hf]; rfl)]
theorem j4d {β : Type} {f : Nat -> Option β} {L : Nat -> Bool} {b v : β} {i : Nat} (hf : f i = some v) (hL : L i = true) :
 ∀ {n : Nat}, i < n -> (∀ j, i < j -> j < n -> (f j).isSome = true -> L j = false) -> gl f L b n = v
 | 0, hi, _ => by omega
 | n + 1, hi, h => by
  simp only [gl]
  by_cases hin : i = n
  ·subst hin; rw [if_pos hL, hf]; rfl
  ·have ih := j4d (b := b) hf hL (n := n) (by omega) fun j h1 h2 => h j h1 (by omega)
   cases hn : f n with
   | none => simp [ih]
   | some u => rw [h n (by omega) (by omega) (by rw [hn]; rfl)]; simpa using ih
theorem k5m {β : Type} {f : Nat -> Option β} {b : β} {i : Nat} : ∀ {n : Nat}, i <= n -> gl f (fun j => decide (j < i)) b n = gl f (fun _ => true) b i
 | 0, h => by
  have : i = 0 := by omega
  subst this; rfl
 | n + 1, h => by
  by_cases hi : i = n + 1
  ·subst hi; exact q3e fun j hj _ => by simp [hj]
  ·simp only [gl]
   rw [if_neg (by simp; omega)]
   exact k5m (by omega)
def rdM (m : f8) : List Nat := i0q m.op ++ (match m.guard with | some (some g, _) => [g] | _ => [])
def j0c (xs ys : List Nat) : Bool := xs.any fun x => ys.contains x
def z1p (m m' : f8) (f f' : List Nat × List Nat) : Bool :=
 j0c m'.dst.toList (rdM m) || j0c m.dst.toList (rdM m') || j0c m.dst.toList m'.dst.toList || j0c f.2 f'.1 || j0c f'.2 f.1 || j0c f.2 f'.2
def clos (after : List (List Nat)) : List (List Nat) := after.foldl (fun T a => T ++ [(a ++ a.flatMap fun e => T.getD e []).eraseDups]) []
def k3j (after B : List (List Nat)) : Bool :=
 ((List.range after.length).all fun i => (after.getD i []).all fun e => decide (e < i)) &&
 (List.range B.length).all fun i => (B.getD i []).all fun j => (after.getD i []).contains j || (after.getD i []).any fun e => decide (e < i) && (B.getD e []).contains j
def y6w (ms : List f8) (B : List (List Nat)) (fts : List (List Nat × List Nat)) : Bool :=
 (List.range ms.length).all fun i => (List.range i).all fun j => match ms[i]?, ms[j]? with
  | some m, some m' => !z1p m m' (fts.getD i ([], [])) (fts.getD j ([], [])) || (B.getD i []).contains j
  | _, _ => false
def k5b (ms : List f8) (after : List (List Nat)) (fts : List (List Nat × List Nat)) : Bool := k3j after (clos after) && y6w ms (clos after) fts
theorem k4w {after B : List (List Nat)} (h : k3j after B = true) {L : Nat -> Bool} (hL : ∀ i, L i = true -> ∀ e ∈ after.getD i [], L e = true) :
 ∀ (i : Nat), (∀ e ∈ after.getD i [], L e = true) -> ∀ j ∈ B.getD i [], L j = true := by
 simp only [k3j, Bool.and_eq_true, List.all_eq_true, List.mem_range, Bool.or_eq_true, List.any_eq_true, decide_eq_true_eq, List.contains_iff_mem] at h
 intro i
 induction i using Nat.strongRecOn with
 | ind i ih =>
  intro ha j hj
  have hi : i < B.length := by
   rcases Nat.lt_or_ge i B.length with h' | h'
   ·exact h'
   ·rw [lgd, List.getElem?_eq_none h'] at hj; simp at hj
  rcases h.2 i hi j hj with h1 | ⟨e, he, hlt, hje⟩
  ·exact ha j h1
  ·exact ih e hlt (hL e (ha e he)) j hje
def unl (L : Nat -> Bool) : Nat -> Nat
 | 0 => 0
 | n + 1 => unl L n + (match L n with | true => 0 | false => 1)
theorem j6t {L L' : Nat -> Bool} {i : Nat} (h1 : L i = false) (h2 : L' i = true) (h : ∀ j, j ≠ i -> L' j = L j) : ∀ {n : Nat}, (n <= i -> unl L' n = unl L n) /\ (i < n -> unl L' n + 1 = unl L n)
 | 0 => ⟨fun _ => rfl, fun h => by omega⟩
 | n + 1 => by
  obtain ⟨ih1, ih2⟩ := j6t (n := n) h1 h2 h
  refine ⟨fun hn => ?_, fun hn => ?_⟩
  ·simp only [unl]; rw [ih1 (by omega), h n (by omega)]
  ·simp only [unl]
   by_cases hin : n = i
   ·subst hin; rw [ih1 (by omega), h1, h2]; simp
   ·rw [h n hin]; have := ih2 (by omega); omega
theorem z8i {L : Nat -> Bool} : ∀ {n : Nat}, unl L n = 0 -> ∀ j, j < n -> L j = true
 | 0, _, j, hj => by omega
 | n + 1, h, j, hj => by
  simp only [unl] at h
  by_cases hn : j = n
  ·subst hn; cases hL : L j with
   | true => rfl
   | false => rw [hL] at h; simp at h
  ·exact z8i (n := n) (by omega) j (by omega)
def fs (d : Nat -> Option Nat) (x : Nat -> AV) (t : Nat) (j : Nat) : Option AV := if d j = some t then some (x j) else none
theorem z2f {d : Option Nat} {env : List AV} {x : AV} {t : Nat} (ht : t < env.length) : (d7 d env x).getD t .junk = if d = some t then x else env.getD t .junk := by
 cases d with
 | none => simp [d7]
 | some d =>
  simp only [d7, lgd, List.getElem?_set, Option.some.injEq]
  by_cases h : d = t
  ·subst h; simp [ht]
  ·simp [h]
theorem k5r {d : Option Nat} {env : List AV} {x : AV} : (d7 d env x).length = env.length := by cases d <;> simp [d7]
structure q3i (P : Program) (k0 : Nat) (ms : List f8) (after : List (List Nat)) (x : Nat -> AV) (δ : Nat -> List (Nat × Ob)) (ft : Nat -> List Nat × List Nat)
 (E : Nat -> List AV) (S : Nat -> j9) : Prop where
 step : ∀ i m, ms[i]? = some m -> x5u P k0 m (E i) (S i) (x i) (δ i) (ft i) /\ E (i + 1) = d7 m.dst (E i) (x i) /\ S (i + 1) = q7g (S i) (δ i)
 ok : k5b ms after ((List.range ms.length).map ft) = true
def z9w (ms : List f8) (j : Nat) : Option Nat := (ms[j]?).bind (·.dst)
section
variable {P : Program} {k0 : Nat} {ms : List f8} {after : List (List Nat)} {x : Nat -> AV} {δ : Nat -> List (Nat × Ob)} {ft : Nat -> List Nat × List Nat}
 {E : Nat -> List AV} {S : Nat -> j9}
theorem q3i.len (h : q3i P k0 ms after x δ ft E S) : ∀ {i : Nat}, i <= ms.length -> (E i).length = (E 0).length
 | 0, _ => rfl
 | i + 1, hi => by
  have hm : ms[i]? = some ms[i] := List.getElem?_eq_getElem (by omega)
  rw [(h.step i _ hm).2.1, k5r, h.len (by omega)]
theorem q3i.slot (h : q3i P k0 ms after x δ ft E S) {t : Nat} (ht : t < (E 0).length) : ∀ {i : Nat}, i <= ms.length ->
 (E i).getD t .junk = gl (fs (z9w ms) x t) (fun _ => true) ((E 0).getD t .junk) i
 | 0, _ => rfl
 | i + 1, hi => by
  have hm : ms[i]? = some ms[i] := List.getElem?_eq_getElem (by omega)
  rw [(h.step i _ hm).2.1, z2f (by rw [h.len (by omega)]; exact ht), h.slot ht (by omega)]
  simp only [gl, if_true, fs, z9w, hm, obz]
  split <;> rfl
theorem q3i.obj (h : q3i P k0 ms after x δ ft E S) (id : Nat) : ∀ {i : Nat}, i <= ms.length ->
 sat (S i) id = gl (fun j => k1n (δ j) id) (fun _ => true) (sat (S 0) id) i
 | 0, _ => rfl
 | i + 1, hi => by
  have hm : ms[i]? = some ms[i] := List.getElem?_eq_getElem (by omega)
  rw [(h.step i _ hm).2.2, z0b, h.obj id (by omega)]
  simp only [gl, if_true]
structure j7g (E : Nat -> List AV) (S : Nat -> j9) (ms : List f8) (x : Nat -> AV) (δ : Nat -> List (Nat × Ob)) (L : Nat -> Bool) (env : List AV) (s : j9) : Prop where
 len : env.length = (E 0).length
 slot : ∀ t, t < (E 0).length -> env.getD t .junk = gl (fs (z9w ms) x t) L ((E 0).getD t .junk) ms.length
 obj : ∀ id, sat s id = gl (fun j => k1n (δ j) id) L (sat (S 0) id) ms.length
theorem q3i.ord (h : q3i P k0 ms after x δ ft E S) {i j : Nat} {m m' : f8} (hi : ms[i]? = some m) (hj : ms[j]? = some m') (hji : j < i)
 (hc : z1p m m' (ft i) (ft j) = true) : j ∈ (clos after).getD i [] := by
 have hl : i < ms.length := (List.getElem?_eq_some_iff.1 hi).1
 have := h.ok
 simp only [k5b, Bool.and_eq_true, y6w, List.all_eq_true, List.mem_range] at this
 have := this.2 i hl j hji
 rw [hi, hj] at this
 have e1 : ((List.range ms.length).map ft).getD i ([], []) = ft i := by simp [lgd, hl]
 have e2 : ((List.range ms.length).map ft).getD j ([], []) = ft j := by simp [lgd, show j < ms.length by omega]
 rw [e1, e2] at this
 simpa [hc] using this
theorem q3i.before (h : q3i P k0 ms after x δ ft E S) {L : Nat -> Bool} (hL : ∀ i, L i = true -> ∀ e ∈ after.getD i [], L e = true) {i : Nat} {m : f8} (hi : ms[i]? = some m)
 (hu : L i = false) (hr : ∀ e ∈ after.getD i [], L e = true) {j : Nat} {m' : f8} (hj : ms[j]? = some m') (hne : j ≠ i) (hc : z1p m m' (ft i) (ft j) = true /\ z1p m' m (ft j) (ft i) = true) :
 L j = decide (j < i) := by
 have hcl := h.ok
 simp only [k5b, Bool.and_eq_true] at hcl
 rcases Nat.lt_or_ge j i with hlt | hge
 ·rw [k4w hcl.1 hL i hr j (h.ord hi hj hlt hc.1)]; simp [hlt]
 ·have hlt : i < j := by omega
  have hb := h.ord hj hi hlt hc.2
  cases hLj : L j with
  | false => simp; omega
  | true =>
   have := k4w hcl.1 hL j (hL j hLj) i hb
   rw [hu] at this
   cases this
theorem k1t {xs ys : List Nat} {a : Nat} (h1 : a ∈ xs) (h2 : a ∈ ys) : j0c xs ys = true := List.any_eq_true.2 ⟨a, h1, by simpa using h2⟩
theorem j3s {j t : Nat} (h : (fs (z9w ms) x t j).isSome = true) : ∃ m', ms[j]? = some m' /\ m'.dst = some t := by
 unfold fs at h
 split at h
 ·rename_i hd
  unfold z9w at hd
  cases hm : ms[j]? with
  | none => rw [hm] at hd; cases hd
  | some m' => rw [hm] at hd; exact ⟨m', rfl, hd⟩
 ·cases h
theorem q3i.write (h : q3i P k0 ms after x δ ft E S) {j id : Nat} {m' : f8} (hj : ms[j]? = some m') (hw : (k1n (δ j) id).isSome = true) : id ∈ (ft j).2 := by
 have := (h.step j m' hj).1
 rcases this with ⟨_, _, _, h3⟩ | ⟨_, _, h3, _⟩
 ·rw [h3]; exact z1s hw
 ·rw [h3] at hw; cases hw
theorem q3i.reads (h : q3i P k0 ms after x δ ft E S) {L : Nat -> Bool} (hL : ∀ i, L i = true -> ∀ e ∈ after.getD i [], L e = true) {i : Nat} {m : f8} (hi : ms[i]? = some m)
 (hu : L i = false) (hr : ∀ e ∈ after.getD i [], L e = true) {env : List AV} {s : j9} (hb : j7g E S ms x δ L env s) {t : Nat} (ht : t ∈ rdM m) : env.getD t .junk = (E i).getD t .junk := by
 have hil : i < ms.length := (List.getElem?_eq_some_iff.1 hi).1
 by_cases hlt : t < (E 0).length
 ·rw [hb.slot t hlt, h.slot hlt (i := i) (by omega), <- k5m (Nat.le_of_lt hil)]
  refine q3e fun j hj hs => ?_
  by_cases hne : j = i
  ·subst hne; rw [hu]; simp
  ·obtain ⟨m', hm', hd⟩ := j3s hs
   refine h.before hL hi hu hr hm' hne ?_
   have : j0c m'.dst.toList (rdM m) = true := k1t (a := t) (by rw [hd]; simp) ht
   simp [z1p, this]
 ·have e1 : env.getD t .junk = .junk := by rw [lgd, List.getElem?_eq_none (by rw [hb.len]; omega)]; rfl
  have e2 : (E i).getD t .junk = .junk := by rw [lgd, List.getElem?_eq_none (by rw [h.len (by omega)]; omega)]; rfl
  rw [e1, e2]
theorem q3i.looks (h : q3i P k0 ms after x δ ft E S) {L : Nat -> Bool} (hL : ∀ i, L i = true -> ∀ e ∈ after.getD i [], L e = true) {i : Nat} {m : f8} (hi : ms[i]? = some m)
 (hu : L i = false) (hr : ∀ e ∈ after.getD i [], L e = true) {env : List AV} {s : j9} (hb : j7g E S ms x δ L env s) {id : Nat} (hid : id ∈ (ft i).1) : sat s id = sat (S i) id := by
 have hil : i < ms.length := (List.getElem?_eq_some_iff.1 hi).1
 rw [hb.obj id, h.obj id (i := i) (by omega), <- k5m (Nat.le_of_lt hil)]
 refine q3e fun j hj hs => ?_
 by_cases hne : j = i
 ·subst hne; rw [hu]; simp
 ·have hm' : ms[j]? = some ms[j] := List.getElem?_eq_getElem hj
  refine h.before hL hi hu hr hm' hne ?_
  have : j0c (ft j).2 (ft i).1 = true := k1t (a := id) (h.write hm' hs) hid
  simp [z1p, this]
theorem q3i.next (h : q3i P k0 ms after x δ ft E S) {L L' : Nat -> Bool} (hL : ∀ i, L i = true -> ∀ e ∈ after.getD i [], L e = true) {i : Nat} {m : f8} (hi : ms[i]? = some m)
 (hu : L i = false) (hr : ∀ e ∈ after.getD i [], L e = true) (hi' : L' i = true) (hn : ∀ j, j ≠ i -> L' j = L j) {env : List AV} {s : j9} (hb : j7g E S ms x δ L env s) :
 j7g E S ms x δ L' (d7 m.dst env (x i)) (q7g s (δ i)) := by
 have hil : i < ms.length := (List.getElem?_eq_some_iff.1 hi).1
 refine ⟨by rw [k5r, hb.len], fun t ht => ?_, fun id => ?_⟩
 ·rw [z2f (by rw [hb.len]; exact ht)]
  split
  ·rename_i hd
   refine (j4d (i := i) (by simp [fs, z9w, hi, hd]) hi' hil fun j hij hj hs => ?_).symm
   obtain ⟨m', hm', hd'⟩ := j3s hs
   have : j0c m.dst.toList m'.dst.toList = true := k1t (a := t) (by rw [hd]; simp) (by rw [hd']; simp)
   have this' : j0c m'.dst.toList m.dst.toList = true := k1t (a := t) (by rw [hd']; simp) (by rw [hd]; simp)
   rw [hn j (by omega), h.before hL hi hu hr hm' (by omega) (by simp [z1p, this, this'])]
   simp; omega
  ·rename_i hd
   rw [hb.slot t ht]
   refine q3e fun j hj hs => ?_
   by_cases hne : j = i
   ·subst hne
    obtain ⟨m', hm', hd'⟩ := j3s hs
    rw [hi] at hm'; cases hm'
    exact absurd hd' hd
   ·rw [hn j hne]
 ·rw [z0b]
  cases hd : k1n (δ i) id with
  | some ob =>
   refine (j4d (i := i) hd hi' hil fun j hij hj hs => ?_).symm
   have hm' : ms[j]? = some ms[j] := List.getElem?_eq_getElem hj
   have a1 := h.write hm' hs
   have a2 := h.write hi (by rw [hd]; rfl : (k1n (δ i) id).isSome = true)
   have : j0c (ft i).2 (ft j).2 = true := k1t a2 a1
   have this' : j0c (ft j).2 (ft i).2 = true := k1t a1 a2
   rw [hn j (by omega), h.before hL hi hu hr hm' (by omega) (by simp [z1p, this, this'])]
   simp; omega
  | none =>
   simp only [Option.getD_none]
   rw [hb.obj id]
   refine q3e fun j hj hs => ?_
   by_cases hne : j = i
   ·subst hne; rw [hd] at hs; cases hs
   ·rw [hn j hne]
theorem q3i.run (h : q3i P k0 ms after x δ ft E S) {L : Nat -> Bool} (hL : ∀ i, L i = true -> ∀ e ∈ after.getD i [], L e = true) {i : Nat} {m : f8} (hi : ms[i]? = some m)
 (hu : L i = false) (hr : ∀ e ∈ after.getD i [], L e = true) {env : List AV} {s : j9} (hb : j7g E S ms x δ L env s) :
 match m.guard with
  | none => vop P k0 m.op env s fun x' env' s' => d7 m.dst env' x' = d7 m.dst env (x i) /\ s' = q7g s (δ i)
  | some (g, want) => match g with
   | none => d7 m.dst env (.tup []) = d7 m.dst env (x i) /\ s = q7g s (δ i)
   | some d => match env.getD d .junk with
    | .d (.lit (.bool b)) => Br b want (vop P k0 m.op env s fun x' env' s' => d7 m.dst env' x' = d7 m.dst env (x i) /\ s' = q7g s (δ i)) (d7 m.dst env (.tup []) = d7 m.dst env (x i) /\ s = q7g s (δ i))
    | .tup [] => d7 m.dst env (.tup []) = d7 m.dst env (x i) /\ s = q7g s (δ i)
    | _ => False := by
 have hs := (h.step i m hi).1
 have run : (∃ ex, z4m P k0 (sat (S i)) (fun x' δ' e' => x' = x i /\ δ' = δ i /\ e' = ex) (i3q P k0 (ev (E i)) (sat (S i)) m.op) /\ ft i = (ex ++ q5p (ev (E i)) m.op, (δ i).map (·.1))) ->
  vop P k0 m.op env s fun x' env' s' => d7 m.dst env' x' = d7 m.dst env (x i) /\ s' = q7g s (δ i) := fun ⟨ex, hd, hf⟩ => by
  have hc : i3q P k0 (ev env) (sat s) m.op = i3q P k0 (ev (E i)) (sat (S i)) m.op := by
   refine j1d (fun o ho => ?_) (fun t ht => ?_) (fun id hid => ?_)
   ·cases o with
    | tmp t => simp [k5x] at ho
    | _ => rfl
   ·simpa only [ev] using h.reads hL hi hu hr hb (t := t) (List.mem_append_left _ ht)
   ·exact h.looks hL hi hu hr hb (by rw [hf]; exact List.mem_append_right _ hid)
  rw [<- hc] at hd
  replace hd := q6z (σ' := sat s) (fun id hid => h.looks hL hi hu hr hb (by rw [hf]; exact List.mem_append_left _ hid)) hd
  exact z8j (j6y (q9s (K := fun x' env' s' => d7 m.dst env' x' = d7 m.dst env (x i) /\ s' = q7g s (δ i)) (fun x' δ' e' hx => by
   obtain ⟨rfl, rfl, _⟩ := hx
   exact ⟨rfl, rfl⟩) hd))
 cases hg : m.guard with
 | none =>
  rcases hs with ⟨_, h2⟩ | ⟨h1, _⟩
  ·exact run h2
  ·simp [gd, hg] at h1
 | some p =>
  obtain ⟨g, want⟩ := p
  cases g with
  | none => rcases hs with ⟨h1, _⟩ | ⟨h1, _⟩ <;> simp [gd, hg] at h1
  | some d =>
   have he : env.getD d .junk = (E i).getD d .junk := h.reads hL hi hu hr hb (by simp [rdM, hg])
   simp only
   rw [he]
   have hgd : gd m (E i) = (match (E i).getD d .junk with | .d (.lit (.bool b)) => some (b == want) | .tup [] => some false | _ => none) := by simp only [gd, hg]
   rcases hs with ⟨h1, h2⟩ | ⟨h1, h2, h3, _⟩
   ·rw [hgd] at h1
    split at h1
    ·rename_i b hb'
     simp only [Option.some.injEq, beq_iff_eq] at h1
     simp only [Br, if_pos h1]
     exact run h2
    ·cases h1
    ·cases h1
   ·rw [hgd] at h1
    split at h1
    ·rename_i b hb'
     simp only [Option.some.injEq, beq_eq_false_iff_ne, ne_eq] at h1
     simp only [Br, if_neg h1]
     rw [h2, h3]
     exact ⟨rfl, rfl⟩
    ·rw [h2, h3]
     exact ⟨rfl, rfl⟩
    ·cases h1
end
theorem j5h {P : Program} {c : Code} {ms : List f8} {after : List (List Nat)} (h : q5t P c = some (.draw ms after)) :
 ∃ id ops, c = .region id ops true /\ ops.toList.mapM (q3g P ops) = some ms /\ after = ops.toList.map fun o => (o.after.toList.filter (Region.binds .any)).map (·.on) := by
 cases c <;> simp [q5t, bes, Option.map_eq_some_iff] at h ⊢
 case region id' ops' d' =>
  obtain ⟨ms', h1, h⟩ := h
  split at h
  ·rename_i hd
   simp only [j5.draw.injEq] at h
   obtain ⟨rfl, rfl⟩ := h
   exact ⟨id', ops', ⟨rfl, rfl, hd⟩, h1, rfl⟩
  ·cases h
theorem k9m {α β : Type} {f : α -> Option β} : ∀ {xs : List α} {ys : List β}, xs.mapM f = some ys -> ys.length = xs.length /\ ∀ (i : Nat) (x : α), xs[i]? = some x -> ∃ y, ys[i]? = some y /\ f x = some y
 | [], ys, h => by simp at h; subst h; simp
 | x :: xs, ys, h => by
  simp only [List.mapM_cons, Option.bind_eq_bind, bes] at h
  obtain ⟨y, h1, ys', h2, h3⟩ := h
  cases h3
  obtain ⟨e1, e2⟩ := k9m h2
  refine ⟨by simp [e1], fun i u hu => ?_⟩
  cases i with
  | zero => simp at hu; subst hu; exact ⟨y, rfl, h1⟩
  | succ i => simpa using e2 i u (by simpa using hu)
theorem j7g.env {E : Nat -> List AV} {S : Nat -> j9} {ms : List f8} {x : Nat -> AV} {δ : Nat -> List (Nat × Ob)} {L L' : Nat -> Bool} {env : List AV} {s : j9}
 (h : j7g E S ms x δ L env s) (hL : ∀ j, j < ms.length -> L j = L' j) : j7g E S ms x δ L' env s :=
 ⟨h.len, fun t ht => by rw [h.slot t ht]; exact q3e fun j hj _ => hL j hj, fun id => by rw [h.obj id]; exact q3e fun j hj _ => hL j hj⟩
theorem z4l {P : Program} {C : Ctx} {ops : Array Oper} {Q : q9j} {ms : List f8} {after : List (List Nat)} {x : Nat -> AV} {δ : Nat -> List (Nat × Ob)} {ft : Nat -> List Nat × List Nat}
 {E : Nat -> List AV} {S : Nat -> j9} (hm : ops.toList.mapM (q3g P ops) = some (ms.map f8.erase)) (ha : after = ops.toList.map fun o => (o.after.toList.filter (Region.binds .any)).map (·.on))
 (h : q3i P C.k ms after x δ ft E S) (hQ : Q .normal (E ms.length) (S ms.length)) :
 ∀ (fuel : Nat) (listed : Array Bool) (env : List AV) (s : j9) (β : x5) (a : Act) (w : World), listed.size = ops.size -> unl (fun j => listed.getD j false) ops.size <= fuel ->
  (∀ i, listed.getD i false = true -> ∀ e ∈ after.getD i [], listed.getD e false = true) -> j7g E S ms x δ (fun j => listed.getD j false) env s -> St C β env s a w ->
  wpAnyIn C.fence 0 P .any ops (fun e a' w' => ∃ C', Ext C C' /\ ∃ β' env' s', St C' β' env' s' a' w' /\ Q e env' s') fuel listed a w := by
 obtain ⟨hlen, hget⟩ := k9m hm
 rw [List.length_map] at hlen
 have hsz : ms.length = ops.size := by rw [hlen]; simp
 have haf : ∀ i o, ops[i]? = some o -> after.getD i [] = (o.after.toList.filter (Region.binds .any)).map (·.on) := fun i o ho => by
  rw [ha, lgd, List.getElem?_map, Array.getElem?_toList, ho]; rfl
 have hback : ∀ i, ∀ e ∈ after.getD i [], e < i := fun i e he => by
  have hc := h.ok
  simp only [k5b, k3j, Bool.and_eq_true, List.all_eq_true, List.mem_range, decide_eq_true_eq] at hc
  have hi : i < after.length := by
   rcases Nat.lt_or_ge i after.length with h' | h'
   ·exact h'
   ·rw [lgd, List.getElem?_eq_none h'] at he; simp at he
  exact hc.1.1 i hi e he
 have isReady : ∀ {listed : Array Bool}, listed.size = ops.size -> ∀ {i : Nat}, i < ops.size -> listed.getD i false = false -> (∀ e ∈ after.getD i [], listed.getD e false = true) ->
  i ∈ Region.ready .any ops listed := fun {listed} hs {i} hi hu hr => by
  rw [mem_ready]
  have ho : ops[i]? = some ops[i] := Array.getElem?_eq_getElem hi
  refine ⟨?_, _, ho, fun e he hb => hr _ ?_⟩
  ·have : i < listed.size := by omega
   simpa [this] using hu
  ·rw [haf i _ ho]
   exact List.mem_map.2 ⟨e, List.mem_filter.2 ⟨by simpa using he, hb⟩, rfl⟩
 have all : ∀ {listed : Array Bool}, listed.size = ops.size -> Region.ready .any ops listed = [] -> ∀ i, i < ops.size -> listed.getD i false = true := fun {listed} hs hn i => by
  induction i using Nat.strongRecOn with
  | ind i ih =>
   intro hi
   cases hu : listed.getD i false with
   | true => rfl
   | false =>
    have := isReady hs hi hu fun e he => ih e (hback i e he) (by have := hback i e he; omega)
    rw [hn] at this
    cases this
 have done : ∀ {listed : Array Bool} {env : List AV} {s : j9} {β : x5} {a : Act} {w : World}, (∀ i, i < ops.size -> listed.getD i false = true) ->
  j7g E S ms x δ (fun j => listed.getD j false) env s -> St C β env s a w -> ∃ C', Ext C C' /\ ∃ β' env' s', St C' β' env' s' a w /\ Q .normal env' s' := fun {listed env s β a w} hall hb hst => by
  have hb' := hb.env (L' := fun _ => true) fun j hj => hall j (by omega)
  have e1 : env = E ms.length := by
   refine List.ext_getElem? fun t => ?_
   by_cases ht : t < (E 0).length
   ·have h1 := hb'.slot t ht
    rw [<- h.slot ht (Nat.le_refl _)] at h1
    have l1 : t < env.length := by rw [hb'.len]; exact ht
    have l2 : t < (E ms.length).length := by rw [h.len (Nat.le_refl _)]; exact ht
    rw [lgd, lgd, List.getElem?_eq_getElem l1, List.getElem?_eq_getElem l2] at h1
    rw [List.getElem?_eq_getElem l1, List.getElem?_eq_getElem l2]
    simpa using h1
   ·rw [List.getElem?_eq_none (by rw [hb'.len]; omega), List.getElem?_eq_none (by rw [h.len (Nat.le_refl _)]; omega)]
  have e2 : ∀ id, sat s id = sat (S ms.length) id := fun id => by rw [hb'.obj id, <- h.obj id (Nat.le_refl _)]
  rw [<- e1] at hQ
  obtain ⟨β', h1⟩ := y0.sto (k := C.k) (env := env) e2 C β a w rfl hst
  exact ⟨C, .refl C, β', env, _, h1, hQ⟩
 intro fuel
 induction fuel with
 | zero =>
  intro listed env s β a w hs hf hd hb hst
  have hall := z8i (Nat.le_zero.1 hf)
  refine ⟨?_, done hall hb hst⟩
  cases hr : Region.ready .any ops listed with
  | nil => rfl
  | cons i rs =>
   have hi : i ∈ Region.ready .any ops listed := by rw [hr]; exact List.mem_cons_self
   obtain ⟨h1, o, ho, _⟩ := mem_ready.1 hi
   have hl : i < ops.size := (Array.getElem?_eq_some_iff.1 ho).1
   have h2 := hall i hl
   have : i < listed.size := by omega
   simp [this] at h1 h2
   rw [h1] at h2; cases h2
 | succ fuel ih =>
  intro listed env s β a w hs hf hd hb hst
  refine ⟨fun hn => done (all hs hn) hb hst, fun i hi => ?_⟩
  obtain ⟨h1, o, ho, hall⟩ := mem_ready.1 hi
  have hl : i < ops.size := (Array.getElem?_eq_some_iff.1 ho).1
  have hll : i < listed.size := by omega
  have hu : listed.getD i false = false := by simp [hll] at h1 ⊢; exact h1
  have hr : ∀ e ∈ after.getD i [], listed.getD e false = true := fun e he => by
   rw [haf i o ho] at he
   obtain ⟨d, hd1, rfl⟩ := List.mem_map.1 he
   obtain ⟨hd2, hd3⟩ := List.mem_filter.1 hd1
   exact hall d (by simpa using hd2) hd3
  obtain ⟨m0, hmi0, hmo⟩ := hget i o (by simpa using ho)
  rw [List.getElem?_map] at hmi0
  obtain ⟨m, hmi, rfl⟩ := Option.map_eq_some_iff.1 hmi0
  unfold wpOpIn
  rw [ho]
  simp only
  refine k5p (K := fun env' s' => env' = d7 m.dst env (x i) /\ s' = q7g s (δ i)) hmo (h.run hd hmi hu hr hb) hst fun β' env' s' a' w' h4 h5 => ?_
  obtain ⟨rfl, rfl⟩ := h5
  have hset : ∀ j, j ≠ i -> (listed.setIfInBounds i true).getD j false = listed.getD j false := fun j hj => getD_set_ne false (Ne.symm hj)
  have hone : (listed.setIfInBounds i true).getD i false = true := by simp [hll]
  refine ih _ _ _ β' a' w' (by simpa using hs) ?_ (fun j hj e he => ?_) (h.next hd hmi hu hr hone hset hb) h4
  ·have := (j6t (L := fun j => listed.getD j false) (L' := fun j => (listed.setIfInBounds i true).getD j false) hu hone hset (n := ops.size)).2 hl
   omega
  ·by_cases hji : j = i
   ·subst hji; exact getD_set_true (hr e he)
   ·rw [hset j hji] at hj; exact getD_set_true (hd j hj e he)
theorem y2t {P : Program} {k : Nat} {Q : q9j} {env : List AV} {s : j9} {ms : List f8} {after : List (List Nat)} (hP : P.follows .mixedOrders = true)
 (h : vdr P k (fun acc env s => k5b ms after acc.reverse = true /\ Q .normal env s) ms [] env s) : MWp P k (.draw ms after) Q env s := fun C hC _ c hc β a w hst => by
 obtain ⟨id, ops, rfl, hm, ha⟩ := j5h hc
 subst hC
 obtain ⟨x, δ, ft, E, S, hE, hS, h1, h2, h3⟩ := k6m h
 rw [List.append_nil, List.reverse_reverse] at h2
 obtain ⟨hlen, _⟩ := k9m hm
 rw [List.length_map] at hlen
 have hrep : ∀ j, (Array.replicate ops.size false).getD j false = false := fun j => by
  rw [Array.getD_eq_getD_getElem?, Array.getElem?_replicate]; split <;> rfl
 have g0 : ∀ {β : Type} {f : Nat -> Option β} {b : β} (n : Nat), gl f (fun j => (Array.replicate ops.size false).getD j false) b n = b := fun {β f b} n => by
  induction n with
  | zero => rfl
  | succ n ih => simp only [gl]; rw [if_neg (by rw [hrep]; simp)]; exact ih
 have hu : ∀ n, unl (fun j => (Array.replicate ops.size false).getD j false) n <= n := fun n => by
  induction n with
  | zero => exact Nat.le_refl _
  | succ n ih => simp only [unl]; rw [hrep]; simp only; omega
 refine wpIn_region_any hP (z4l hm ha ⟨h1, h2⟩ h3 ops.size _ env s β a _ (by simp) (hu _) (fun i hi => ?_) ⟨by rw [hE], fun t ht => ?_, fun id' => ?_⟩ hst.drew)
 ·rw [hrep] at hi; cases hi
 ·rw [g0, hE]
 ·rw [g0, hS]
def drQ (ms : List f8) (after : List (List Nat)) (Q : q9j) (acc : List (List Nat × List Nat)) (env : List AV) (s : j9) : Prop :=
 k5b ms after acc.reverse = true /\ Q .normal env s
def q0n (P : Program) (k0 : Nat) (F : List (List Nat × List Nat) -> List AV -> j9 -> Prop) (ms : List f8) (acc : List (List Nat × List Nat)) (foot : List Nat) (d : Option Nat) (env : List AV) (s : j9)
 (o : Del) : Prop := z4m P k0 (sat s) (fun x δ ex => vdr P k0 F ms ((ex ++ foot, δ.map (·.1)) :: acc) (d7 d env x) (q7g s δ)) o
def q3y (P : Program) (k0 : Nat) (F : List (List Nat × List Nat) -> List AV -> j9 -> Prop) (ms : List f8) (acc : List (List Nat × List Nat)) (foot : List Nat) (d : Option Nat) (env : List AV) (s : j9)
 (f : Nat) (args : List AV) : Prop := y1s P k0 (sat s) f args fun x δ ex => vdr P k0 F ms ((ex ++ foot, δ.map (·.1)) :: acc) (d7 d env x) (q7g s δ)
def BrD (P : Program) (k0 : Nat) (F : List (List Nat × List Nat) -> List AV -> j9 -> Prop) (ms : List f8) (acc : List (List Nat × List Nat)) (foot : List Nat) (d : Option Nat) (env : List AV) (s : j9)
 (b : Bool) (o1 o2 : Del) : Prop := if b = true then q0n P k0 F ms acc foot d env s o1 else q0n P k0 F ms acc foot d env s o2
def BrH (P : Program) (k0 : Nat) (F : List (List Nat × List Nat) -> List AV -> j9 -> Prop) (b want : Bool) (m : MOp) (d : Option Nat) (ms : List f8) (acc : List (List Nat × List Nat)) (env : List AV) (s : j9) : Prop :=
 if b = want then q0n P k0 F ms acc (q5p (ev env) m) d env s (i3q P k0 (ev env) (sat s) m) else vdr P k0 F ms (([], []) :: acc) (d7 d env (.tup [])) s
def vdrG (P : Program) (k0 : Nat) (F : List (List Nat × List Nat) -> List AV -> j9 -> Prop) (want : Bool) (m : MOp) (d : Option Nat) (ms : List f8) (acc : List (List Nat × List Nat)) (env : List AV) (s : j9) : AV -> Prop
 | .d (.lit (.bool b)) => BrH P k0 F b want m d ms acc env s
 | .tup [] => vdr P k0 F ms (([], []) :: acc) (d7 d env (.tup [])) s
 | _ => False
section
variable {P : Program} {k0 : Nat} {F : List (List Nat × List Nat) -> List AV -> j9 -> Prop} {b want : Bool} {m : MOp} {d : Option Nat} {ms : List f8} {env : List AV} {s : j9}
 {acc : List (List Nat × List Nat)} {foot : List Nat}
theorem x9v : vdr P k0 F [] acc env s = F acc env s := (rfl)
theorem j7a : vdr P k0 F (⟨d, m, none⟩ :: ms) acc env s = q0n P k0 F ms acc (q5p (ev env) m) d env s (i3q P k0 (ev env) (sat s) m) := (rfl)
theorem j6z {g : Nat} : vdr P k0 F (⟨d, m, some (some g, want)⟩ :: ms) acc env s = vdrG P k0 F want m d ms acc env s (env.getD g .junk) := by
 simp only [vdr, gd]
 generalize env.getD g .junk = x
 cases x with
 | d y => cases y with
  | lit u => cases u with
   | bool b =>
    simp only [vdrG, BrH]
    cases b <;> cases want <;> rfl
   | _ => rfl
  | _ => rfl
 | tup cs => cases cs <;> rfl
 | _ => rfl
theorem x3e {x : AV} {δ : List (Nat × Ob)} : q0n P k0 F ms acc foot d env s (.ok x δ) = vdr P k0 F ms ((foot, δ.map (·.1)) :: acc) (d7 d env x) (q7g s δ) := (rfl)
theorem j1f {p : Prop} {o : Del} : q0n P k0 F ms acc foot d env s (.need p o) = (p /\ q0n P k0 F ms acc foot d env s o) := (rfl)
theorem j1e {f : Nat} {args : List AV} : q0n P k0 F ms acc foot d env s (.call f args) = q3y P k0 F ms acc foot d env s f args := (rfl)
theorem x3d {o1 o2 : Del} : q0n P k0 F ms acc foot d env s (.br b o1 o2) = BrD P k0 F ms acc foot d env s b o1 o2 := (rfl)
theorem BrD_t {o1 o2 : Del} : BrD P k0 F ms acc foot d env s true o1 o2 = q0n P k0 F ms acc foot d env s o1 := by simp [BrD]
theorem BrD_f {o1 o2 : Del} : BrD P k0 F ms acc foot d env s false o1 o2 = q0n P k0 F ms acc foot d env s o2 := by simp [BrD]
theorem y1a : BrH P k0 F true true m d ms acc env s = q0n P k0 F ms acc (q5p (ev env) m) d env s (i3q P k0 (ev env) (sat s) m) := by simp [BrH]
theorem y0x : BrH P k0 F false false m d ms acc env s = q0n P k0 F ms acc (q5p (ev env) m) d env s (i3q P k0 (ev env) (sat s) m) := by simp [BrH]
theorem y0z : BrH P k0 F true false m d ms acc env s = vdr P k0 F ms (([], []) :: acc) (d7 d env (.tup [])) s := by simp [BrH]
theorem y0y : BrH P k0 F false true m d ms acc env s = vdr P k0 F ms (([], []) :: acc) (d7 d env (.tup [])) s := by simp [BrH]
end
theorem m_dgo {P : Program} {k : Nat} {Q : q9j} {env : List AV} {s : j9} {ms : List f8} {after : List (List Nat)} (hP : P.follows .mixedOrders = true)
 (h : vdr P k (drQ ms after Q) ms [] env s) : MWp P k (.draw ms after) Q env s := y2t hP h
theorem y7q {ms : List f8} {after : List (List Nat)} {Q : q9j} {acc : List (List Nat × List Nat)} {env : List AV} {s : j9} (h : k5b ms after acc.reverse = true) (hq : Q .normal env s) :
 drQ ms after Q acc env s := ⟨h, hq⟩
theorem y2m {x : D} : y2l (.d x) = x7s (slK (.d x)) := (rfl)
theorem x0v {e id : Nat} {xs : List D} : y2l (.own e id xs) = .ok (.d (iD xs.length)) [] := (rfl)
theorem j4n {e e' id off len : Nat} {n : Int} : x0s e n (.msl e' id off len) = .need (e' = e /\ 0 <= n /\ n < len) (.ok (.ptr id (off + n.toNat * e)) []) := (rfl)
theorem x7n {e : Nat} {n : Int} {x : D} : x0s e n (.d x) = x7o e n (slK (.d x)) := (rfl)
theorem x0u {e id n : Nat} : y2l (.gow e id n) = .ok (.d (iD n)) [] := (rfl)
attribute [go_sem] j8z j8t x3m j8x x0u x4r j6j y1j x9v j7a j6z vdrG x3e j1f j1e x3d BrD_t BrD_f y1a y0x y0z y0y x6d q0j x4p x0z j6i z8d binL x6b x4n unL x7d x8w y6r fadL fldL x7o j4n x7n ixaL y2j x7s y2m x0v x7u x2i y0l x2g x5x j8l x5w extL k5t boxL x3n bslL x5b y7m hiL x1j x4k i3q q5p q7g
def q4f : Value := .slice none 0 0
theorem St.tokNil {C : Ctx} {β : x5} {env : List AV} {s : j9} {a : Act} {w : World} (h : St C β env s a w) {id t e : Nat} (hd : sat s id = .dead) :
 St C (bset β id (.tok q4f 0)) env (j8 s id (.tok t e 0)) a w /\ l3q β s w (bset β id (.tok q4f 0)) (j8 s id (.tok t e 0)) w := by
 have hno : β id = .no := by have := h.inv.obs id; rw [hd] at this; exact this
 have noOwn : ∀ b o, ¬ own (bset β id (.tok q4f 0)) [(id, .tok t e 0)] b o := fun b o ⟨i, hi⟩ => by
  by_cases h1 : i = id
  ·subst h1; simp [sat, bset, q4f] at hi
  ·simp [sat, h1] at hi
 have noBlk : ∀ b, ¬ q8 (bset β id (.tok q4f 0)) [(id, .tok t e 0)] id b := fun b hi => by
  simp [q8, sat, bset, q4f] at hi
 have m : l3q β s w (bset β id (.tok q4f 0)) (j8 s id (.tok t e 0)) w := by
  refine ⟨Nat.le_refl _, rfl, fun b o v hc _ => hc, fun b hb _ => rfl, fun b o ho => ?_, fun i b hb => ?_, fun i => ?_⟩
  ·rcases q4y ho with ho | ho
   ·exact .inl ho
   ·exact absurd ho (noOwn b o)
  ·rcases t7 hb with ⟨_, hb⟩ | ⟨_, hb⟩
   ·exact .inl ⟨i, hb⟩
   ·exact absurd hb (noBlk b)
  ·by_cases hi : i = id
   ·subst hi; simp only [bset, if_true]; rw [hno]; trivial
   ·simp only [bset, hi, if_false]; exact .refl _
 refine ⟨h.move m (fun i => ?_) (fun i j b hi hj => ?_), m⟩
 ·rw [u5]
  by_cases hi : i = id
  ·subst hi
   simp only [if_true, k4s]
   exact ⟨q4f, by simp [bset], .inl ⟨rfl, rfl⟩⟩
  ·simp only [hi, if_false]
   exact (h.inv.obs i).moves m (by simp [bset, hi]) (fun b hb => rfl) rfl
 ·rcases t7 hi with ⟨hi1, hi2⟩ | ⟨rfl, hi2⟩ <;> rcases t7 hj with ⟨hj1, hj2⟩ | ⟨rfl, hj2⟩
  ·exact h.inv.inj i j b hi2 hj2
  ·exact absurd hj2 (noBlk b)
  ·exact absurd hi2 (noBlk b)
  ·rfl
theorem k5v {O : Own} {w : World} {e0 : Nat} {v : Value} (h : D.ok O w (.sl e0 (some true) []) v) : v = q4f := by
 simp only [D.ok, y0c] at h
 obtain ⟨a, cap, h1, _, ⟨rfl, rfl⟩, _⟩ := h
 simpa [q4f] using h1
theorem k9s {β : x5} {O : Own} {w : World} {e id : Nat} (hb : β id = .tok q4f 0) : AV.ok β O w (.own e id []) q4f := by
 simp only [AV.ok, D.ok, y0c]
 exact ⟨⟨none, 0, by simp [q4f], by simp [j8h], trivial, by simp⟩, q4f, 0, by rw [hb]; exact ⟨rfl, rfl⟩, Nat.le_refl _, fun _ => rfl⟩
theorem y0.thaw {k : Nat} {env : List AV} {s : j9} (i id t e : Nat) {e0 : Nat} (hd : sat s id = .dead) (hi : env[i]? = some (.d (.sl e0 (some true) []))) :
 y0 k env s (env.set i (.own e id [])) (j8 s id (.tok t e 0)) := fun _ _ _ _ _ hst => by
 obtain ⟨h1, m⟩ := hst.tokNil (t := t) (e := e) hd
 refine ⟨_, h1.defers, h1.inv, by rw [h1.len, List.length_set], fun j x hj => ?_⟩
 rw [List.getElem?_set] at hj
 split at hj
 ·rename_i hij
  subst hij
  split at hj
  ·cases hj
   have := hst.env i _ hi
   simp only [AV.ok] at this
   rw [k5v this]
   exact k9s (by simp [bset])
  ·cases hj
 ·exact h1.env j x hj
theorem St.retell {C : Ctx} {β : x5} {env : List AV} {s : j9} {a : Act} {w : World} (h : St C β env s a w) {o t : Nat} {cs cs' : List AV} (ho : sat s o = .obj t cs)
 (hc : ∀ vs, AV.oks β (C.forb β s) w cs vs -> AV.oks β (C.forb β s) w cs' vs) : St C β env (j8 s o (.obj t cs')) a w := by
 have hown : ∀ b x, own β (j8 s o (.obj t cs')) b x ↔ own β s b x := fun b x => by
  constructor <;> rintro ⟨i, hi⟩ <;> refine ⟨i, ?_⟩ <;> rw [u5] at * <;> by_cases hio : i = o
  ·subst hio; simp only [if_true] at hi; rw [ho]; exact hi
  ·simpa [hio] using hi
  ·subst hio; rw [ho] at hi; simpa using hi
  ·simpa [hio] using hi
 have hblk : ∀ i b, q8 β (j8 s o (.obj t cs')) i b ↔ q8 β s i b := fun i b => by
  unfold q8
  rw [u5]
  by_cases hio : i = o
  ·subst hio; simp [ho]
  ·simp [hio]
 have m : l3q β s w β (j8 s o (.obj t cs')) w :=
  ⟨Nat.le_refl _, rfl, fun b o v hc _ => hc, fun b hb _ => rfl, fun b x hx => .inl ((hown b x).1 hx), fun i b hb => .inl ⟨i, (hblk i b).1 hb⟩, fun i => .refl _⟩
 refine h.move m (fun i => ?_) (fun i j b hi hj => h.inv.inj i j b ((hblk i b).1 hi) ((hblk j b).1 hj))
 rw [u5]
 by_cases hio : i = o
 ·subst hio
  simp only [if_true]
  have := h.inv.obs i
  rw [ho] at this
  obtain ⟨b, vs, h1, h2, h3, h4⟩ := this
  exact ⟨b, vs, h1, h2, h3, h4.imp fun _ h => m.oks (hc _ h)⟩
 ·simp only [hio, if_false]
  exact (h.inv.obs i).moves m rfl (fun b hb => rfl) rfl
theorem z5h {β : x5} {O : Own} {w : World} {y : AV} : ∀ {cs : List AV} {vs : List Value} {j : Nat} {x : AV}, cs[j]? = some x -> (∀ v, AV.ok β O w x v -> AV.ok β O w y v) -> AV.oks β O w cs vs -> AV.oks β O w (cs.set j y) vs
 | [], vs, j, x, hj, _, _ => by simp at hj
 | c :: cs, vs, 0, x, hj, hy, h => by
  simp only [AV.oks, List.set_cons_zero] at h ⊢
  simp at hj
  subst hj
  obtain ⟨v, r, h1, h2, h3⟩ := h
  exact ⟨v, r, h1, hy v h2, h3⟩
 | c :: cs, vs, j + 1, x, hj, hy, h => by
  simp only [AV.oks, List.set_cons_succ] at h ⊢
  obtain ⟨v, r, h1, h2, h3⟩ := h
  exact ⟨v, r, h1, h2, z5h (by simpa using hj) hy h3⟩
theorem y0.thawCell {k : Nat} {env : List AV} {s : j9} (o j id t e : Nat) {e0 t' : Nat} {cs : List AV} (hd : sat s id = .dead) (ho : sat s o = .obj t' cs) (hj : cs[j]? = some (.d (.sl e0 (some true) []))) :
 y0 k env s env (j8 (j8 s id (.tok t e 0)) o (.obj t' (cs.set j (.own e id [])))) := fun _ _ _ _ _ hst => by
 obtain ⟨h1, m⟩ := hst.tokNil (t := t) (e := e) hd
 have hoi : o ≠ id := by rintro rfl; rw [hd] at ho; cases ho
 refine ⟨_, h1.retell (cs := cs) (by rw [u5, if_neg hoi, ho]) fun _ hv => z5h hj (fun _ hv => ?_) hv⟩
 simp only [AV.ok] at hv
 rw [k5v hv]
 exact k9s (by simp [bset])
def D.le (x y : D) : Prop := ∀ O w vs, D.cel O w x vs -> D.cel O w y vs
def q5v : List D -> List D -> Prop
 | [], [] => True
 | x :: xs, y :: ys => D.le x y /\ q5v xs ys
 | _, _ => False
theorem D.le_refl (x : D) : D.le x x := fun _ _ _ h => h
theorem q5v.refl : ∀ xs : List D, q5v xs xs
 | [] => trivial
 | x :: xs => ⟨D.le_refl x, q5v.refl xs⟩
theorem q5v.length : ∀ {xs ys : List D}, q5v xs ys -> xs.length = ys.length
 | [], [], _ => rfl
 | _ :: _, _ :: _, h => by simp [q5v.length h.2]
 | [], _ :: _, h => h.elim
 | _ :: _, [], h => h.elim
theorem q5v.append : ∀ {xs ys us vs : List D}, q5v xs ys -> q5v us vs -> q5v (xs ++ us) (ys ++ vs)
 | [], [], _, _, _, h => h
 | _ :: _, _ :: _, _, _, h, k => ⟨h.1, q5v.append h.2 k⟩
 | [], _ :: _, _, _, h, _ => h.elim
 | _ :: _, [], _, _, h, _ => h.elim
theorem q5v.row {O : Own} {w : World} {b e : Nat} : ∀ {xs ys : List D} {o : Nat}, q5v xs ys -> D.row O w b o e xs -> D.row O w b o e ys
 | [], [], _, _, h => h
 | _ :: _, _ :: _, _, h, hr => by
  rw [D.row_cons] at hr ⊢
  obtain ⟨⟨vs, h1, h2, h3⟩, h4⟩ := hr
  exact ⟨⟨vs, h1, h2, h.1 O w vs h3⟩, q5v.row h.2 h4⟩
 | [], _ :: _, _, h, _ => h.elim
 | _ :: _, [], _, h, _ => h.elim
theorem y7l {O : Own} {w : World} {e : Nat} {nl : Option Bool} {xs ys : List D} {v : Value} (h : q5v xs ys) (hv : D.ok O w (.sl e nl xs) v) : D.ok O w (.sl e nl ys) v := by
 simp only [D.ok] at hv ⊢
 obtain ⟨a, cap, h1, h2, h3, h4⟩ := hv
 refine ⟨a, cap, by rw [<- h.length]; exact h1, by rw [<- h.length]; exact h2, h3, ?_⟩
 rcases h4 with h4 | ⟨b, o, h5, h6⟩
 ·subst h4
  cases ys with
  | nil => exact .inl rfl
  | cons y ys => exact h.elim
 ·exact .inr ⟨b, o, h5, h.row h6⟩
theorem AV.le_sl {e : Nat} {nl : Option Bool} {xs ys : List D} (h : q5v xs ys) : AV.le (.d (.sl e nl xs)) (.d (.sl e nl ys)) := fun _ _ _ _ hv => by
 simp only [AV.ok] at hv ⊢
 exact y7l h hv
theorem AV.le_ownown {e id : Nat} {xs ys : List D} (h : q5v xs ys) : AV.le (.own e id xs) (.own e id ys) := fun _ _ _ _ hv => by
 simp only [AV.ok] at hv ⊢
 obtain ⟨h1, u, n, h2, h3, h4⟩ := hv
 exact ⟨y7l h h1, u, n, h2, by rw [<- h.length]; exact h3, by rw [<- h.length]; exact h4⟩
end Abx
