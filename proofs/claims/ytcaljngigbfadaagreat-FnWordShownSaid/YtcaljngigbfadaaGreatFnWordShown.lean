/- The statement FnWordShownSaid is proved: the law FnWordShown returns true at every input and leaves the input as it was; nothing is assumed. -/
import Derived.Test.YtcaljngigbfadaaGreatWbase
import Derived.ProofKit
import Derived.OpenShut
import Derived.Below
import Derived.Test.YtcaljngigbfadaaGreatWpd
import Derived.Test.YtcaljngigbfadaaGreatRows
import Derived.JoinedOf
import Derived.KernelRfl
set_option linter.unusedSimpArgs false
set_option linter.unusedVariables false
set_option linter.unusedSectionVars false
namespace Go.Proofs.YtcaljngigbfadaaGreat
open Go Abx Go.ChangeShapes Go.WideShapes Go.ChangeAt Go.RowKit
theorem pure_below {P : Program} {f : Nat} {d r : D} (h : PFun P f [d] r) {W : World} {v : Value} (hd : D.ok (fun _ _ => False) W d v) :
    Calls P f #[v] W fun e W' => (∃ u, e = .returned u ∧ D.ok (fun _ _ => False) W' r u) ∧ Below W.heap.size W W' := by
  have no : ∀ (b o : Nat), ¬ ({ O := fun _ _ => False, β := fun _ => .no, s := [], w := W, k := 0 } : Ctx).forb (fun _ => .no) [] b o := fun b o h => by
    rcases h with h | ⟨i, h⟩
    · exact h
    exact h
  have hI : Inv { O := fun _ _ => False, β := fun _ => .no, s := [], w := W, k := 0 } (fun _ => .no) [] W :=
    ⟨Nat.le_refl _, rfl, fun _ _ _ h _ => h, fun _ _ _ => rfl, fun _ _ h => .inl h, fun id b h => .inl ⟨id, h⟩, fun _ h => absurd h (Nat.not_lt_zero _), fun _ _ h => h.elim, fun _ => rfl, fun _ _ _ h => h.elim⟩
  have ha : AV.oks (fun _ => .no) (({ O := fun _ _ => False, β := fun _ => .no, s := [], w := W, k := 0 } : Ctx).forb (fun _ => .no) []) W ([d].map .d) #[v].toList := by
    refine ⟨v, [], rfl, ?_, rfl⟩
    simp only [AV.ok]
    exact D.ok_mono (fun b o v hc _ => ⟨hc, no b o⟩) _ _ hd
  refine (h { O := fun _ _ => False, β := fun _ => .no, s := [], w := W, k := 0 } #[v] rfl rfl hI ha).mono fun e W' hq => ?_
  obtain ⟨u, x, β', s', rfl, hi, hx, rfl⟩ := hq
  simp only [AV.ok] at hx
  refine ⟨⟨u, rfl, D.ok_mono (fun b o v hc _ => ⟨hc, fun h => h⟩) _ _ hx⟩, ?_⟩
  have hio := hi.io
  simp only [wio, Prod.mk.injEq] at hio
  exact ⟨hio.1, hio.2.2, hio.2.1, hi.size, fun k hk => hi.blks k hk fun id h => h⟩
theorem ok_bytes {W : World} {x : Addr} {len cap : Nat} {zs : List Int} (hl : len ≤ cap) (hm : cap ≤ maxLen) (hz : zs.length = cap)
    (hc : ∀ i, i < zs.length → W.cell? (x.add i) = some (.int .u8 (zs.getD i 0))) :
    D.ok (fun _ _ => False) W (slD 1 (kD .u8) (zs.take len)) (.slice (some x) len cap) := by
  have hlen : ((zs.take len).map (kD .u8)).length = len := by simp; omega
  simp only [slD, D.ok]
  refine ⟨some x, cap, by rw [hlen], ⟨by rw [hlen]; exact hl, by have : maxLen = 2 ^ 63 - 1 := rfl; omega⟩, trivial, ?_⟩
  rcases Nat.eq_zero_or_pos len with h0 | h0
  · subst h0; exact .inl rfl
  obtain ⟨b, o, spot⟩ := x
  have h1 := hc 0 (by omega)
  have hs : spot = none := by simpa [Addr.add] using World.cell?_spot h1
  subst hs
  refine .inr ⟨b, o, rfl, ?_⟩
  have key : ∀ (ys : List Int) (o' : Nat), (∀ i, i < ys.length → W.cell? ⟨b, o' + i, none⟩ = some (.int .u8 (ys.getD i 0))) → D.row (fun _ _ => False) W b o' 1 (ys.map (kD .u8)) := by
    intro ys
    induction ys with
    | nil => intro _ _; simp [D.row]
    | cons y ys ih =>
      intro o' h
      simp only [List.map_cons, kD]
      refine D.row_cons.2 ⟨⟨[.int .u8 y], rfl, fun j v hj => ?_, ?_⟩, ?_⟩
      · cases j with
        | zero =>
          simp at hj; subst hj
          have := h 0 (by simp)
          exact ⟨by simpa using this, fun h => h, rfl⟩
        | succ j => simp at hj
      · exact ⟨_, rfl, rfl, rfl⟩
      refine ih (o' + 1) fun i hi => ?_
      have := h (i + 1) (by simp; omega)
      simpa [Nat.add_assoc, Nat.add_comm 1 i] using this
  refine key _ _ fun i hi => ?_
  simp at hi
  have := hc i (by omega)
  rw [show Addr.add ⟨b, o, none⟩ i = ⟨b, o + i, none⟩ by simp [Addr.add]] at this
  rw [this]
  simp [List.getD, show i < len by omega]
theorem ok_nil {W : World} : D.ok (fun _ _ => False) W (slD 1 (kD .u8) []) (.slice none 0 0) := by
  simp only [slD, D.ok]
  exact ⟨none, 0, rfl, ⟨Nat.le_refl _, by decide⟩, trivial, .inl rfl⟩
end Go.Proofs.YtcaljngigbfadaaGreat
namespace Go.Proofs.YtcaljngigbfadaaGreat
open Go Abx Go.ChangeShapes Go.WideShapes Go.ChangeAt Go.RowKit
theorem own5 : ownKnob Tryz.prog.godebug = none := by kernel_rfl
theorem laid5 : laidOutB Tryz.prog = true := by kernel_rfl
theorem law_walk {W : World} {v : Value} {code : List Int} (h : D.ok (fun _ _ => False) W (slD 1 (kD .u8) code) v) :
    Calls Tryz.prog 7 #[v] W fun e W' => e = .returned (.bool true) ∧ Below W.heap.size W W' :=
  (pure_below (law_pure code) h).mono fun _ _ ⟨⟨_, h1, h2⟩, h3⟩ => by
    simp only [D.ok] at h2
    exact ⟨by rw [h1, h2.1], h3⟩
set_option maxRecDepth 100000 in
theorem fnWordShown_lifted (os : Os) (started : os.Started) (H : Type) (enc : TypeId × Value → H) :
    ReturnsInHanded {} Tryz.checked os 7 .any (Rows.fnWordShownSpec.pre6 enc Tryz.prog Tryz.f7 Rows.fnWordShownRow.domain false) (Rows.fnWordShownSpec.post enc Tryz.prog Tryz.f7 false true false false) := by
  refine returnsInHanded_of_change (C := Tryz.checked) own5 started (by kernel_rfl) Tryz.func7
    (ChangeSpec.witness6 (enc := enc) (C := Tryz.checked) false ⟨#[], #[.slice none 0 0], []⟩ 8 (by kernel_rfl) (by kernel_rfl) (by kernel_rfl) (by kernel_rfl)) ?_
  intro W base args ds gs before hval0 hW hcnd _
  have hval : ∀ (j : Nat) t v, Tryz.f7.params[j]? = some t → args[j]? = some v → Value.okWide Tryz.prog W .any base t v := hval0
  have hW' := hW
  obtain ⟨p, q, hA0, hV, rfl, hfz, hnd⟩ := hW
  have hA : DataW.TrodAll enc Tryz.prog W 0 (fun _ => true) true Tryz.f7.params.toList args.toList ds p := hA0
  rw [Tryz.params7] at hA hval
  obtain ⟨v0, d0, rfl, rfl, h0⟩ := trodAll_one hA
  obtain ⟨rfl, rfl⟩ := trodVars_none hV
  have k0 := h0
  have lt0 : ∀ x ∈ p, x.block < W.heap.size := by obtain ⟨m, hm⟩ := k0; exact DataW.trod_lt m _ _ _ hm
  obtain ⟨a0, len0, cap0, rfl⟩ := okWide_slice Tryz.underlying59 (hval 0 _ v0 rfl rfl)
  have hok : ∃ code, D.ok (fun _ _ => False) W (slD 1 (kD .u8) code) (.slice a0 len0 cap0) := by
    obtain ⟨fuel, hf⟩ := h0
    rcases open_ints Tryz.underlying59 Tryz.underlying5 (by kernel_rfl) hf with ⟨hcs, _⟩ | ⟨x, l, c, zs, hcs, _, hl, hm, hz, _, hcell, hwz⟩
    · simp [Value.cells] at hcs
      obtain ⟨rfl, rfl, rfl⟩ := hcs
      exact ⟨[], ok_nil⟩
    simp [Value.cells] at hcs
    obtain ⟨rfl, rfl, rfl⟩ := hcs
    exact ⟨_, ok_bytes hl hm (by simpa using hz) hcell⟩
  obtain ⟨code, hok⟩ := hok
  clear hA0 hval0
  refine (law_walk hok).mono fun e W' ⟨he, bel⟩ => ?_
  subst he
  exact ⟨_, rfl, _, _, _, [], _, [], hW', trodAll_mk1 (shut_bool Tryz.underlying4 _), (trodAll_cons_mk (Below.trod laid5 (by kernel_rfl) (of_decide_eq_true (by kernel_rfl)) k0 bel lt0) trodAll_mk0), rfl, bel.frame _, fun h => by cases h⟩
end Go.Proofs.YtcaljngigbfadaaGreat
namespace Go.Proofs.YtcaljngigbfadaaGreat
open Go Go.ChangeShapes Go.WideShapes Go.ChangeAt Go.RowKit
theorem and2 {a b : Bool} (ha : a = true) (hb : b = true) : (a && b) = true := by rw [ha, hb]; rfl
set_option maxRecDepth 100000 in
set_option maxHeartbeats 4000000 in
theorem closed7 : joinedFacts Tryz.prog 7 Tryz.f7 Rows.fnWordShownSpec Rows.fnWordShownRow = true := by
  unfold joinedFacts
  with_reducible repeat' refine and2 ?_ ?_
  all_goals as_aux_lemma => kernel_rfl
end Go.Proofs.YtcaljngigbfadaaGreat
namespace Go.Proofs.YtcaljngigbfadaaGreat
open Go Abx Go.ChangeShapes Go.WideShapes Go.ChangeAt Go.RowKit
theorem fnWordShown_proved : Rows.FnWordShownSaid :=
  OpenClaim.holds_of_wide 7 Tryz.f7 rfl rfl rfl rfl rfl rfl rfl ⟨rfl, rfl, rfl, rfl, rfl⟩ rfl rfl rfl rfl rfl (by kernel_rfl) Tryz.func7 closed7
    (of_decide_eq_true (by kernel_rfl)) (by unfold Func.isWrapper; first | (rw [if_pos (by decide +kernel)]; kernel_rfl) | (rw [if_neg (by decide +kernel)]; exact ⟨rfl, rfl⟩))
    (fun os started H enc _ => fnWordShown_lifted os started H enc)
end Go.Proofs.YtcaljngigbfadaaGreat
