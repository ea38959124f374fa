/- The draws are total, and the equation of the law FnWordShown is true at every input; nothing is assumed. -/
import Derived.Test.YtcaljngigbfadaaGreatWh
import Derived.Test.YtcaljngigbfadaaGreatWpa
import Derived.Test.YtcaljngigbfadaaGreatWj
import Derived.Test.YtcaljngigbfadaaGreatWpc
set_option linter.unusedSimpArgs false
set_option linter.unusedVariables false
set_option linter.unusedSectionVars false
namespace Go.Proofs.YtcaljngigbfadaaGreat
open Go Abx Tm
def Cu (c0 : List Int) (i : Int) : Prop := 0 ≤ i ∧ i ≤ c0.length
theorem and255 (x : Int) : 0 ≤ andI .i64 x 255 ∧ andI .i64 x 255 ≤ 255 := by
  have h : (BitVec.ofInt IntKind.i64.bits x &&& BitVec.ofInt IntKind.i64.bits 255).toNat ≤ 255 := by
    rw [BitVec.toNat_and]
    exact Nat.le_trans Nat.and_le_right (by decide)
  unfold andI
  rw [w64 (by omega) (by omega)]
  omega
theorem byte_ok {c0 : List Int} {i : Int} (hs : Small c0) (hi : Cu c0 i) (h : Int) : Okk True (F_spec_l1Byte c0 i h) fun r => 0 ≤ r.1 ∧ r.1 ≤ 255 ∧ Cu c0 r.2.1 := by
  have hs : c0.length < 1099511627776 := hs
  obtain ⟨h1, h2⟩ := hi
  unfold F_spec_l1Byte
  refine Okk.ite (fun hc => ?_) fun hc => .some ⟨(and255 _).1, (and255 _).2, h1, h2⟩
  simp only [decide_eq_true_eq] at hc
  refine Okk.need ⟨h1, hc⟩ (.some ⟨(and255 _).1, (and255 _).2, ?_⟩)
  show Cu c0 (IntKind.i64.wrap (i + 1))
  rw [w64 (n := i + 1) (by omega) (by omega)]
  exact ⟨by omega, by omega⟩
theorem tmod_lt {a n : Int} (ha : 0 ≤ a) (hn : 0 < n) : 0 ≤ a.tmod n ∧ a.tmod n < n := ⟨Int.tmod_nonneg _ ha, Int.tmod_lt_of_pos _ hn⟩
theorem below_ok {c0 : List Int} {i : Int} (hs : Small c0) (hi : Cu c0 i) (n h : Int) : Okk True (F_spec_l1Below n c0 i h) fun r => 0 ≤ r.1 ∧ (0 < n → r.1 < n) ∧ (n ≤ 0 → r.1 = 0) ∧ Cu c0 r.2.1 := by
  unfold F_spec_l1Below
  refine Okk.ite (fun hc => ?_) fun hc => ?_
  · simp only [decide_eq_true_eq] at hc
    exact .some ⟨Int.le_refl _, fun h => by omega, fun _ => rfl, hi⟩
  simp only [decide_eq_false_iff_not] at hc
  refine Okk.ite (fun _ => ?_) fun _ => ?_
  · refine Okk.bind (byte_ok hs hi h) fun r hr => Okk.need (by omega) (.some ?_)
    obtain ⟨h1, h2⟩ := tmod_lt hr.1 (show 0 < n by omega)
    exact ⟨h1, fun _ => h2, fun h => by omega, hr.2.2⟩
  refine Okk.bind (byte_ok hs hi h) fun r1 h1 => Okk.bind (byte_ok hs h1.2.2 _) fun r2 h2 => Okk.bind (byte_ok hs h2.2.2 _) fun r3 h3 => Okk.bind (byte_ok hs h3.2.2 _) fun r4 h4 => Okk.need (by omega) (.some ?_)
  obtain ⟨a1, b1, _⟩ := h1
  obtain ⟨a2, b2, _⟩ := h2
  obtain ⟨a3, b3, _⟩ := h3
  obtain ⟨a4, b4, hc4⟩ := h4
  simp only
  rw [w64 (n := r1.1 * 16777216) (by omega) (by omega), w64 (n := r2.1 * 65536) (by omega) (by omega), w64 (n := r3.1 * 256) (by omega) (by omega), w64 (n := r1.1 * 16777216 + r2.1 * 65536) (by omega) (by omega),
    w64 (n := r1.1 * 16777216 + r2.1 * 65536 + r3.1 * 256) (by omega) (by omega), w64 (n := r1.1 * 16777216 + r2.1 * 65536 + r3.1 * 256 + r4.1) (by omega) (by omega)]
  obtain ⟨e1, e2⟩ := tmod_lt (a := r1.1 * 16777216 + r2.1 * 65536 + r3.1 * 256 + r4.1) (n := n) (by omega) (by omega)
  exact ⟨e1, fun _ => e2, fun h => by omega, hc4⟩
theorem once_ok {c0 : List Int} {i : Int} (hs : Small c0) (hi : Cu c0 i) (n h : Int) : Okk True (F_spec_l1Once n c0 i h) fun r => Cu c0 r.2.1 := by
  unfold F_spec_l1Once
  exact Okk.bind (below_ok hs hi n h) fun r hr => .some hr.2.2.2
theorem from_ok {c0 : List Int} {i : Int} (hs : Small c0) (hi : Cu c0 i) {lo hi' : Int} (h : Int) (h1 : -100 ≤ lo) (h2 : lo ≤ hi') (h3 : hi' ≤ 100) : Okk True (F_spec_l1From lo hi' c0 i h) fun r => lo ≤ r.1 ∧ r.1 ≤ hi' ∧ Cu c0 r.2.1 := by
  unfold F_spec_l1From
  rw [w64 (n := hi' - lo) (by omega) (by omega), w64 (n := hi' - lo + 1) (by omega) (by omega)]
  refine Okk.bind (below_ok hs hi _ h) fun r hr => .some ?_
  have := hr.2.1 (by omega)
  have := hr.1
  simp only
  rw [w64 (n := lo + r.1) (by omega) (by omega)]
  exact ⟨by omega, by omega, hr.2.2.2⟩
theorem odd_ok {c0 : List Int} {i : Int} (hs : Small c0) (hi : Cu c0 i) (h : Int) : Okk True (F_spec_l1Odd c0 i h) fun r => Cu c0 r.2.1 := by
  unfold F_spec_l1Odd
  exact Okk.bind (below_ok hs hi 10 h) fun r hr => Okk.need ⟨hr.1, hr.2.1 (by omega)⟩ (.some hr.2.2.2)
theorem new_ok {code : List Int} (hs : Small code) : Okk True (F_spec_l1New code) fun r => r.1 = code ∧ r.2.1 = 0 := by
  have hs : code.length < 1099511627776 := hs
  unfold F_spec_l1New
  refine Okk.loop (fun q : Int × Int => ∃ i : Nat, q.2 = i ∧ i ≤ code.length) (fun q : Int × Int => code.length - q.2.toNat) ⟨0, rfl, by omega⟩ ?_
  rintro ⟨g, _⟩ ⟨i, rfl, h1⟩
  simp only [F_spec_l1New_l1]
  by_cases hi : i < code.length
  · simp only [show (i : Int) < code.length by omega, decide_true, if_true, show (0 : Int) ≤ i by omega, and_self, w64 (n := (i : Int) + 1) (by omega) (by omega)]
    exact .some ⟨⟨i + 1, by simp, by omega⟩, by simp; omega⟩
  simp only [show ¬ (i : Int) < code.length by omega, decide_false, Bool.false_eq_true, if_false, Option.map_some]
  exact .some ⟨rfl, rfl⟩
def SigS (a : List Int) : Prop := a.length ≤ 10 ∧ ∀ n ∈ a, n ≤ 4
theorem sig_loop {c0 : List Int} (hs : Small c0) {f : Int × Int × Int × List Int → Option ((Int × Int × Int × List Int) ⊕ (List Int × Int × Int))}
    (hf : f = fun q => if (decide (0 < q.1)) = true then (F_spec_l1Below 3 c0 q.2.1 q.2.2.1).bind fun r_2 => if (q.2.2.2.length + 1) * 8 ≤ 140737488355328 then some (.inl ((IntKind.i64.wrap (q.1 - 1)), r_2.2.1, r_2.2.2, (q.2.2.2 ++ [r_2.1]))) else none
      else Option.map Sum.inr (some (q.2.2.2, q.2.1, q.2.2.1))) {n i h : Int} (h0 : 0 ≤ n) (h4 : n < 4) (hi : Cu c0 i) : Okk True (loopC f (n, i, h, [0])) fun r => (sigOk r.1 = true ∧ r.1.length ≤ 4) ∧ Cu c0 r.2.1 := by
  refine Okk.loop (fun q : Int × Int × Int × List Int => 0 ≤ q.1 ∧ q.1 < 4 ∧ Cu c0 q.2.1 ∧ 1 ≤ q.2.2.2.length ∧ (q.2.2.2.length : Int) + q.1 ≤ 4 ∧ ∀ x ∈ q.2.2.2, 0 ≤ x ∧ x ≤ 3) (fun q : Int × Int × Int × List Int => q.1.toNat) ⟨h0, h4, hi, by simp, by simp; omega, by simp⟩ ?_
  rintro ⟨n, i, h, sig⟩ ⟨h1, h2, h3, h5, h6, h7⟩
  simp only at h1 h2 h3 h5 h6 h7
  subst hf
  refine Okk.ite (fun hc => ?_) fun hc => ?_
  · simp only [decide_eq_true_eq] at hc
    refine Okk.bind (below_ok hs h3 3 h) fun r hr => Okk.need (by simp only; omega) (.some ?_)
    have := hr.2.1 (by omega)
    simp only [Rnd]
    rw [w64 (n := n - 1) (by omega) (by omega)]
    refine ⟨⟨by omega, by omega, hr.2.2.2, by simp, by simp; omega, fun x hx => ?_⟩, by omega⟩
    rcases List.mem_append.1 hx with hx | hx
    · exact h7 x hx
    simp at hx; subst hx; have := hr.1; omega
  refine Okk.inr (.some ?_)
  simp only [Rnd]
  exact ⟨⟨sigOk_iff.2 ⟨h5, by omega, h7⟩, by omega⟩, h3⟩
theorem drawSig_ok {c0 : List Int} {i : Int} (hs : Small c0) (hi : Cu c0 i) (h : Int) : Okk True (F_spec_l1DrawSig c0 i h) fun r => (sigOk r.1 = true ∧ r.1.length ≤ 4) ∧ Cu c0 r.2.1 := by
  unfold F_spec_l1DrawSig
  refine Okk.bind (once_ok hs hi 4 h) fun r hr => Okk.ite (fun _ => ?_) fun _ => .some ⟨⟨show sigOk [2, 1, 0] = true by decide, show [2, 1, 0].length ≤ 4 by decide⟩, hr⟩
  refine Okk.bind (below_ok hs hr 4 _) fun r1 h1 => ?_
  exact sig_loop hs (by funext ⟨a, b, c, d⟩; rfl) h1.1 (h1.2.1 (by omega)) h1.2.2.2
theorem drawSig1_ok {c0 : List Int} {i : Int} (hs : Small c0) (hi : Cu c0 i) (h : Int) : Okk True (F_spec_l1DrawSig_s1 c0 i h) fun r => (sigOk r.1 = true ∧ r.1.length ≤ 4) ∧ Cu c0 r.2.1 := by
  unfold F_spec_l1DrawSig_s1
  refine Okk.bind (once_ok hs hi 4 h) fun r hr => Okk.ite (fun _ => ?_) fun _ => .some ⟨⟨show sigOk [2, 1, 0] = true by decide, show [2, 1, 0].length ≤ 4 by decide⟩, hr⟩
  refine Okk.bind (below_ok hs hr 4 _) fun r1 h1 => ?_
  exact sig_loop hs (by funext ⟨a, b, c, d⟩; rfl) h1.1 (h1.2.1 (by omega)) h1.2.2.2
theorem sigS_of {a : List Int} (h : sigOk a = true) : SigS a := by
  obtain ⟨_, h2, h3⟩ := sigOk_iff.1 h
  exact ⟨by omega, fun n hn => by have := h3 n hn; omega⟩
theorem drawSigAny_ok {c0 : List Int} {i : Int} (hs : Small c0) (hi : Cu c0 i) (h : Int) : Okk True (F_spec_l1DrawSigAny c0 i h) fun r => SigS r.1 ∧ Cu c0 r.2.1 := by
  unfold F_spec_l1DrawSigAny
  refine Okk.bind (drawSig1_ok hs hi h) fun r hr => Okk.bind (once_ok hs hr.2 15 _) fun r1 h1 => Okk.ite (fun _ => ?_) fun _ => .some ⟨sigS_of hr.1.1, h1⟩
  have hS := sigS_of hr.1.1
  have hl := hr.1.2
  refine Okk.bind (below_ok hs h1 3 _) fun r2 h2 => Okk.ite (fun _ => ?_) fun _ => Okk.ite (fun _ => ?_) fun _ => Okk.ite (fun _ => ?_) fun _ => ?_
  · refine Okk.bind (from_ok hs h2.2.2.2 _ (by omega) (by omega) (by omega)) fun r3 h3 => Okk.need (by omega) (.some ⟨⟨by simp; omega, fun n hn => ?_⟩, h3.2.2⟩)
    rcases List.mem_append.1 hn with hn | hn
    · exact hS.2 n hn
    simp at hn; subst hn; exact h3.2.1
  · exact .some ⟨⟨by simp, by simp⟩, h2.2.2.2⟩
  · refine Okk.bind (below_ok hs h2.2.2.2 2 _) fun r4 h4 => ?_
    have := h4.1
    have := h4.2.1 (by omega)
    rw [w64 (n := 8 + r4.1) (by omega) (by omega)]
    refine Okk.need (by omega) (Okk.need (by simp) (.some ⟨⟨by simp; omega, fun n hn => ?_⟩, h4.2.2.2⟩))
    rw [List.eq_of_mem_replicate hn]; omega
  exact .some ⟨hS, h2.2.2.2⟩
def tb : Nat → Nat
  | 0 => 1
  | d + 1 => 1 + 3 * tb d
theorem tb_pos (d : Nat) : 1 ≤ tb d := by cases d <;> simp [tb]
theorem const_wf {a : List Int} {f : Nat} (hf : f < a.length) (h0 : a.getD f default = 0) : Wf a 1 [(f : Int)] := by
  refine Wf.cons_iff.2 ⟨⟨by omega, by omega⟩, ?_⟩
  have : ari a (f : Int) = 0 := by
    simp only [ari, show ¬ (f : Int) < 0 by omega, if_false, Int.toNat_natCast]
    rw [show a.getD f 0 = a.getD f default from rfl, h0]; rfl
  rw [this]; exact Wf.nil
theorem var_wf {a : List Int} {x : Int} (h1 : -24 ≤ x) (h2 : x < 0) : Wf a 1 [x] := by
  refine Wf.cons_iff.2 ⟨⟨h1, by omega⟩, ?_⟩
  have : ari a x = 0 := by simp [ari, h2]
  rw [this]; exact Wf.nil
theorem const_loop {a c0 : List Int} (ha : sigOk a = true) {i h : Int} (hi : Cu c0 i) {d : Nat} {f : Int → Option (Int ⊕ (List Int × Int × Int))}
    (hf : f = fun f => if (decide (0 ≤ f)) = true then if 0 ≤ f ∧ f < (a.length : Int) then if ((a.getD f.toNat default) == 0) = true then Option.map Sum.inr (some ([f], i, h)) else some (.inl (IntKind.i64.wrap (f - 1))) else none else Option.map Sum.inr (some ([(-1)], i, h))) :
    ∀ t, Okk t (loopC f (IntKind.i64.wrap ((a.length : Int) - 1))) fun r => (Wf a 1 r.1 ∧ r.1.length ≤ tb d) ∧ Cu c0 r.2.1 := fun t => by
  have hl := (sigOk_iff.1 ha).2.1
  rw [w64 (n := (a.length : Int) - 1) (by omega) (by omega)]
  refine Okk.loop (fun q : Int => -1 ≤ q ∧ q < a.length) (fun q : Int => (q + 1).toNat) ⟨by omega, by omega⟩ ?_
  intro q hq
  subst hf
  refine Okk.ite (fun hc => ?_) fun hc => ?_
  · simp only [decide_eq_true_eq] at hc
    refine Okk.need ⟨hc, hq.2⟩ (Okk.ite (fun h0 => Okk.inr (.some ?_)) fun h0 => .some ?_)
    · have := const_wf (a := a) (f := q.toNat) (by omega) (by simpa using h0)
      rw [show ((q.toNat : Nat) : Int) = q by omega] at this
      exact ⟨⟨this, by have := tb_pos d; simp; omega⟩, hi⟩
    simp only [Rnd]
    rw [w64 (n := q - 1) (by omega) (by omega)]
    omega
  exact Okk.inr (.some ⟨⟨var_wf (by omega) (by omega), by have := tb_pos d; simp; omega⟩, hi⟩)
def TermP (a c0 : List Int) (d : Nat) (r : List Int × Int × Int) : Prop := (Wf a 1 r.1 ∧ r.1.length ≤ tb d) ∧ Cu c0 r.2.1
theorem var_draw {a c0 : List Int} (hs : Small c0) {vars i h : Int} (hv : 0 < vars) (hv3 : vars ≤ 3) (hi : Cu c0 i) (d : Nat) {t : Prop} :
    Okk t ((F_spec_l1Below vars c0 i h).bind fun r_1 => some ([(IntKind.i64.wrap ((-1) - r_1.1))], r_1.2.1, r_1.2.2)) (TermP a c0 d) := by
  refine Okk.bind ((below_ok hs hi vars h).weak fun _ => trivial) fun r hr => .some ?_
  have := hr.1
  have := hr.2.1 hv
  rw [w64 (n := -1 - r.1) (by omega) (by omega)]
  exact ⟨⟨var_wf (by omega) (by omega), by have := tb_pos d; simp; omega⟩, hr.2.2.2⟩
theorem sub_draw {a c0 : List Int} {d : Nat} {k : Int} {us : List Int} {f : Int} (hf : 0 ≤ f ∧ f < a.length) (hk : a.getD f.toNat default = k) {n : Nat} (hu : Wf a n us) (hn : (n : Int) = k) : Wf a 1 (f :: us) := by
  refine Wf.cons_iff.2 ⟨⟨by omega, hf.2⟩, ?_⟩
  have : ari a f = n := by
    simp only [ari, show ¬ f < 0 by omega, if_false]
    rw [show a.getD f.toNat 0 = a.getD f.toNat default from rfl, hk]; omega
  rw [this, Nat.zero_add]; exact hu
theorem drawTerm_ok {a c0 : List Int} (ha : sigOk a = true) (hs : Small c0) {vars : Int} (hv : 0 < vars) (hv3 : vars ≤ 3) : ∀ (fu d : Nat) {depth i h : Int}, depth ≤ d + 1 → -10 ≤ depth → d ≤ 3 → Cu c0 i →
    Okk (d + 1 ≤ fu) (F_spec_l1DrawTerm fu a depth vars c0 i h) (TermP a c0 d)
  | 0, d, depth, i, h, _, _, _, _ => ⟨fun _ h => by simp [F_spec_l1DrawTerm] at h, fun h => by omega⟩
  | fu + 1, d, depth, i, h, hd, hd0, hd3, hi => by
    have hal := sigOk_iff.1 ha
    unfold F_spec_l1DrawTerm
    refine Okk.ite (fun hc => ?_) fun hc => ?_
    · refine Okk.ite (fun _ => ?_) fun hx => absurd hx (by simpa using hv)
      refine Okk.bind ((once_ok hs hi 2 h).weak fun _ => trivial) fun r hr => Okk.ite (fun _ => var_draw hs hv hv3 hr d) fun _ => ?_
      exact const_loop ha hr (by funext f; rfl) _
    simp only [decide_eq_false_iff_not] at hc
    refine Okk.bind ((once_ok hs hi 4 h).weak fun _ => trivial) fun r hr => Okk.ite (fun _ => ?_) fun _ => ?_
    · refine Okk.ite (fun _ => ?_) fun hx => absurd hx (by simpa using hv)
      refine Okk.bind ((once_ok hs hr 2 _).weak fun _ => trivial) fun r3 h3 => Okk.ite (fun _ => var_draw hs hv hv3 h3 d) fun _ => ?_
      exact const_loop ha h3 (by funext f; rfl) _
    refine Okk.bind ((below_ok hs hr (a.length : Int) _).weak fun _ => trivial) fun r5 h5 => ?_
    have hf : 0 ≤ r5.1 ∧ r5.1 < (a.length : Int) := ⟨h5.1, h5.2.1 (by omega)⟩
    refine Okk.need hf ?_
    cases d with
    | zero => omega
    | succ d =>
      have hk := hal.2.2 _ (getD_mem (show r5.1.toNat < a.length by omega))
      generalize hkk : a.getD r5.1.toNat default = kk at hk
      refine Okk.loop (fun q : List Int × Int × Int × Int => ∃ (j : Nat) (us : List Int), q.1 = r5.1 :: us ∧ Wf a j us ∧ us.length ≤ j * tb d ∧ q.2.1 = kk - j ∧ (j : Int) ≤ kk ∧ Cu c0 q.2.2.1) (fun q : List Int × Int × Int × Int => q.2.1.toNat)
        ⟨0, [], rfl, Wf.nil, by simp, by simp only; omega, by omega, h5.2.2.2⟩ ?_
      rintro ⟨out, k, i2, g⟩ ⟨j, us, rfl, h6, h7, rfl, h8, h9⟩
      simp only at h9
      simp only [F_spec_l1DrawTerm_l5]
      have htb : tb d ≤ 40 := by
        have : d ≤ 2 := by omega
        match d, this with
        | 0, _ => decide
        | 1, _ => decide
        | 2, _ => decide
      have hj3 : j ≤ 3 := by omega
      have hjt : j * tb d ≤ 3 * 40 := Nat.mul_le_mul hj3 htb
      refine Okk.ite (fun hc2 => ?_) fun hc2 => ?_
      · simp only [decide_eq_true_eq] at hc2
        rw [w64 (n := depth - 1) (by omega) (by omega)]
        refine Okk.bind ((drawTerm_ok ha hs hv hv3 fu d (depth := depth - 1) (i := i2) (h := g) (by omega) (by omega) (by omega) h9).weak fun h => by omega) fun r6 hr6 => ?_
        obtain ⟨⟨e1, e2⟩, e3⟩ := hr6
        refine Okk.need (by simp only [List.length_cons]; omega) (.some ?_)
        simp only [Rnd]
        rw [w64 (n := kk - j - 1) (by omega) (by omega)]
        refine ⟨⟨j + 1, us ++ r6.1, by simp, h6.app e1, ?_, by omega, by omega, e3⟩, by omega⟩
        rw [List.length_append, Nat.add_mul, Nat.one_mul]; omega
      simp only [decide_eq_false_iff_not] at hc2
      refine Okk.inr (.some ?_)
      simp only [Rnd]
      refine ⟨⟨sub_draw (c0 := c0) (d := d) hf hkk h6 (by omega), ?_⟩, h9⟩
      simp only [List.length_cons, tb]
      have := Nat.mul_le_mul_right (tb d) hj3
      omega
theorem drawTermA_ok {a c0 : List Int} (ha : sigOk a = true) (hs : Small c0) {vars : Int} (hv : 0 < vars) (hv3 : vars ≤ 3) (d : Nat) {depth i : Int} (h : Int) (h1 : depth ≤ d + 1) (h2 : -10 ≤ depth) (h3 : d ≤ 3) (hi : Cu c0 i) :
    Okk True (F_spec_l1DrawTerm_all a depth vars c0 i h) (TermP a c0 d) := by
  unfold F_spec_l1DrawTerm_all
  exact Okk.lim (d + 1) fun n => drawTerm_ok ha hs hv hv3 n d h1 h2 h3 hi
theorem drawTerm1_ok {a c0 : List Int} (ha : sigOk a = true) (hs : Small c0) {vars : Int} (hv : 0 < vars) (hv3 : vars ≤ 3) (fu : Nat) (d : Nat) {depth i h : Int} (hd : depth ≤ d + 1) (hd0 : -10 ≤ depth) (hd3 : d ≤ 3) (hi : Cu c0 i) :
    Okk (1 ≤ fu) (F_spec_l1DrawTerm_s1 fu a depth vars c0 i h) (TermP a c0 d) := by
  have hal := sigOk_iff.1 ha
  cases fu with
  | zero => exact ⟨fun _ h => by simp [F_spec_l1DrawTerm_s1] at h, fun h => by omega⟩
  | succ fu =>
    unfold F_spec_l1DrawTerm_s1
    refine Okk.ite (fun hc => ?_) fun hc => ?_
    · refine Okk.ite (fun _ => ?_) fun hx => absurd hx (by simpa using hv)
      refine Okk.bind ((once_ok hs hi 2 h).weak fun _ => trivial) fun r hr => Okk.ite (fun _ => var_draw hs hv hv3 hr d) fun _ => ?_
      exact const_loop ha hr (by funext f; rfl) _
    simp only [decide_eq_false_iff_not] at hc
    refine Okk.bind ((once_ok hs hi 4 h).weak fun _ => trivial) fun r hr => Okk.ite (fun _ => ?_) fun _ => ?_
    · refine Okk.ite (fun _ => ?_) fun hx => absurd hx (by simpa using hv)
      refine Okk.bind ((once_ok hs hr 2 _).weak fun _ => trivial) fun r3 h3 => Okk.ite (fun _ => var_draw hs hv hv3 h3 d) fun _ => ?_
      exact const_loop ha h3 (by funext f; rfl) _
    refine Okk.bind ((below_ok hs hr (a.length : Int) _).weak fun _ => trivial) fun r5 h5 => ?_
    have hf : 0 ≤ r5.1 ∧ r5.1 < (a.length : Int) := ⟨h5.1, h5.2.1 (by omega)⟩
    refine Okk.need hf ?_
    cases d with
    | zero => omega
    | succ d =>
      have hk := hal.2.2 _ (getD_mem (show r5.1.toNat < a.length by omega))
      generalize hkk : a.getD r5.1.toNat default = kk at hk
      refine Okk.loop (fun q : Int × Int × Int × List Int => ∃ (j : Nat) (us : List Int), q.2.2.2 = r5.1 :: us ∧ Wf a j us ∧ us.length ≤ j * tb d ∧ q.1 = kk - j ∧ (j : Int) ≤ kk ∧ Cu c0 q.2.1) (fun q : Int × Int × Int × List Int => q.1.toNat)
        ⟨0, [], rfl, Wf.nil, by simp, by simp only; omega, by omega, h5.2.2.2⟩ ?_
      rintro ⟨k, i2, g, out⟩ ⟨j, us, h10, h6, h7, rfl, h8, h9⟩
      simp only at h9 h10
      subst h10
      simp only [F_spec_l1DrawTerm_s1_l5]
      have htb : tb d ≤ 40 := by
        have : d ≤ 2 := by omega
        match d, this with
        | 0, _ => decide
        | 1, _ => decide
        | 2, _ => decide
      have hj3 : j ≤ 3 := by omega
      have hjt : j * tb d ≤ 3 * 40 := Nat.mul_le_mul hj3 htb
      refine Okk.ite (fun hc2 => ?_) fun hc2 => ?_
      · simp only [decide_eq_true_eq] at hc2
        rw [w64 (n := depth - 1) (by omega) (by omega)]
        refine Okk.bind ((drawTermA_ok ha hs hv hv3 d (depth := depth - 1) (i := i2) g (by omega) (by omega) (by omega) h9).weak fun _ => trivial) fun r6 hr6 => ?_
        obtain ⟨⟨e1, e2⟩, e3⟩ := hr6
        refine Okk.need (by simp only [List.length_cons]; omega) (.some ?_)
        simp only [Rnd]
        rw [w64 (n := kk - j - 1) (by omega) (by omega)]
        refine ⟨⟨j + 1, us ++ r6.1, by simp, h6.app e1, ?_, by omega, by omega, e3⟩, by omega⟩
        rw [List.length_append, Nat.add_mul, Nat.one_mul]; omega
      simp only [decide_eq_false_iff_not] at hc2
      refine Okk.inr (.some ?_)
      simp only [Rnd]
      refine ⟨⟨sub_draw (c0 := c0) (d := d) hf hkk h6 (by omega), ?_⟩, h9⟩
      simp only [List.length_cons, tb]
      have := Nat.mul_le_mul_right (tb d) hj3
      omega
theorem drawTerm1A_ok {a c0 : List Int} (ha : sigOk a = true) (hs : Small c0) {vars : Int} (hv : 0 < vars) (hv3 : vars ≤ 3) (d : Nat) {depth i : Int} (h : Int) (h1 : depth ≤ d + 1) (h2 : -10 ≤ depth) (h3 : d ≤ 3) (hi : Cu c0 i) :
    Okk True (F_spec_l1DrawTerm_s1_all a depth vars c0 i h) (TermP a c0 d) := by
  unfold F_spec_l1DrawTerm_s1_all
  exact Okk.lim 1 fun n => drawTerm1_ok ha hs hv hv3 n d h1 h2 h3 hi
end Go.Proofs.YtcaljngigbfadaaGreat
namespace Go.Proofs.YtcaljngigbfadaaGreat
open Go Abx Tm
theorem tb3 {d : Nat} (h : d ≤ 3) : tb d ≤ 40 := by
  match d, h with
  | 0, _ => decide
  | 1, _ => decide
  | 2, _ => decide
  | 3, _ => decide
theorem termP_len {a c0 : List Int} {d : Nat} {r : List Int × Int × Int} (h : TermP a c0 d r) (hd : d ≤ 3) : 1 ≤ r.1.length ∧ r.1.length ≤ 40 := ⟨h.1.1.len, Nat.le_trans h.1.2 (tb3 hd)⟩
theorem drawAny_ok {a c0 : List Int} (hs : Small c0) {i : Int} (h : Int) (hi : Cu c0 i) : Okk True (F_spec_l1DrawAny a c0 i h) fun r => r.1.length ≤ 60 ∧ Cu c0 r.2.1 := by
  have dflt : ∀ g, Okk True ((F_spec_l1From (-2) 2 c0 i g).bind fun r => some ([r.1], r.2.1, r.2.2)) fun r => r.1.length ≤ 60 ∧ Cu c0 r.2.1 := fun g =>
    Okk.bind (from_ok hs hi g (by omega) (by omega) (by omega)) fun r hr => .some ⟨by simp, hr.2.2⟩
  unfold F_spec_l1DrawAny
  refine Okk.ite (fun _ => dflt h) fun _ => ?_
  rw [F_spec_SigOk_eq, Option.bind_some]
  refine Okk.ite (fun ha => ?_) fun _ => dflt h
  refine Okk.bind (below_ok hs hi 4 h) fun r2 h2 => ?_
  have := h2.1
  have := h2.2.1 (by omega)
  rw [w64 (n := 1 + r2.1) (by omega) (by omega)]
  refine Okk.bind (drawTerm1A_ok ha hs (vars := 3) (by omega) (by omega) 3 _ (by omega) (by omega) (by omega) h2.2.2.2) fun r3 h3 => ?_
  obtain ⟨l1, l2⟩ := termP_len h3 (by omega)
  refine Okk.bind (once_ok hs h3.2 12 _) fun r4 h4 => Okk.ite (fun _ => ?_) fun _ => .some ⟨by simp only; omega, h4⟩
  refine Okk.bind (below_ok hs h4 4 _) fun r5 h5 => ?_
  refine Okk.ite (fun _ => ?_) fun _ => Okk.ite (fun _ => ?_) fun _ => Okk.ite (fun _ => ?_) fun _ => Okk.ite (fun _ => ?_) fun _ => .some ⟨by simp only; omega, h5.2.2.2⟩
  · exact Okk.bind (from_ok hs h5.2.2.2 _ (by omega) (by omega) (by omega)) fun r6 h6 => Okk.need (by omega) (.some ⟨by simp; omega, h6.2.2⟩)
  · refine Okk.bind (below_ok hs h5.2.2.2 (r3.1.length : Int) _) fun r7 h7 => Okk.bind (from_ok hs h7.2.2.2 _ (by omega) (by omega) (by omega)) fun r8 h8 => Okk.need ⟨h7.1, h7.2.1 (by omega)⟩ (.some ⟨by simp; omega, h8.2.2⟩)
  · exact Okk.need (by omega) (.some ⟨by simp; omega, h5.2.2.2⟩)
  exact Okk.bind (odd_ok hs h5.2.2.2 _) fun r9 h9 => Okk.need (by omega) (.some ⟨by simp; omega, h9⟩)
theorem order_ok {t : List Int} (ht : t.length ≤ 200) : Okk True (F_spec_l2Order t) fun _ => True := by
  unfold F_spec_l2Order
  refine Okk.loop (fun q : List Int × Int => ∃ i : Nat, q.2 = i ∧ i ≤ t.length ∧ q.1.length ≤ i) (fun q : List Int × Int => t.length - q.2.toNat) ⟨0, rfl, by omega, by simp⟩ ?_
  rintro ⟨out, _⟩ ⟨i, rfl, h1, h2⟩
  simp only at h2
  simp only [F_spec_l2Order_l1]
  by_cases hi : i < t.length
  · simp only [show (i : Int) < t.length by omega, decide_true, if_true, show (0 : Int) ≤ i by omega, and_self, Int.toNat_natCast, w64 (n := (i : Int) + 1) (by omega) (by omega), F_spec_l1Has_eq (show Small out by show out.length < _; omega), Option.bind_some]
    refine Okk.ite (fun _ => Okk.ite (fun _ => .some ⟨⟨i + 1, by simp, by omega, by simp only; omega⟩, by simp; omega⟩) fun _ => Okk.need (by omega) (.some ⟨⟨i + 1, by simp, by omega, by simp; omega⟩, by simp; omega⟩)) fun _ => .some ⟨⟨i + 1, by simp, by omega, by simp only; omega⟩, by simp; omega⟩
  simp only [show ¬ (i : Int) < t.length by omega, decide_false, Bool.false_eq_true, if_false, Option.map_some]
  exact .some trivial
theorem mend_loop {a l c0 : List Int} (ha : sigOk a = true) (hl : Wf a 1 l) (hl60 : l.length ≤ 200) {i h : Int} (hi : Cu c0 i) {n : Nat} (hn : n ≤ 60) {g : List Int} (hg : g.length = n) {f : Int × List Int → Option ((Int × List Int) ⊕ ((List Int × List Int) × Int × Int))}
    (hf : f = fun q => if (decide (q.1 < (q.2.length : Int))) = true then
      if 0 ≤ q.1 ∧ q.1 < (q.2.length : Int) then
        if (decide ((q.2.getD q.1.toNat default) < 0)) = true then
          if 0 ≤ q.1 ∧ q.1 < (q.2.length : Int) then
            (F_spec_l1Has l (q.2.getD q.1.toNat default)).bind fun r_6 =>
            if r_6 = true then some (.inl ((IntKind.i64.wrap (q.1 + 1)), q.2))
            else
              (F_spec_l2Order l).bind fun r_7 =>
              if ((r_7.length : Int) == 0) = true then
                (F_spec_l1Sub a l (IntKind.i64.wrap ((l.length : Int) - 1))).bind fun r_8 => Option.map Sum.inr (some ((l, r_8), i, h))
              else
                if 0 ≤ 0 ∧ 0 < (r_7.length : Int) then
                  if 0 ≤ q.1 ∧ q.1 < (q.2.length : Int) then some (.inl ((IntKind.i64.wrap (q.1 + 1)), (q.2.set q.1.toNat (r_7.getD 0 default)))) else none
                else none
          else none
        else some (.inl ((IntKind.i64.wrap (q.1 + 1)), q.2))
      else none
    else Option.map Sum.inr (some ((l, q.2), i, h))) : Okk True (loopC f (0, g)) fun r => (r.1.1.length ≤ 200 ∧ r.1.2.length ≤ 200) ∧ Cu c0 r.2.1 := by
  refine Okk.loop (fun q : Int × List Int => ∃ j : Nat, q.1 = j ∧ j ≤ n ∧ q.2.length = n) (fun q : Int × List Int => n - q.1.toNat) ⟨0, rfl, by omega, hg⟩ ?_
  rintro ⟨_, g⟩ ⟨j, rfl, h1, h2⟩
  simp only at h2
  subst hf
  have hll := hl.len
  by_cases hj : j < n
  · simp only [h2, show (j : Int) < (n : Int) by omega, decide_true, if_true, show (0 : Int) ≤ j by omega, and_self, Int.toNat_natCast, w64 (n := (j : Int) + 1) (by omega) (by omega), F_spec_l1Has_eq (show Small l by show l.length < _; omega), Option.bind_some]
    refine Okk.ite (fun _ => Okk.ite (fun _ => .some ⟨⟨j + 1, by simp, by omega, h2⟩, by simp; omega⟩) fun _ => ?_) fun _ => .some ⟨⟨j + 1, by simp, by omega, h2⟩, by simp; omega⟩
    refine Okk.bind (order_ok hl60) fun o _ => Okk.ite (fun _ => ?_) fun ho => ?_
    · rw [w64 (n := (l.length : Int) - 1) (by omega) (by omega)]
      obtain ⟨p, u, q, e1, e2, e3⟩ := hl.place (i := l.length - 1) (by omega)
      have hd : l.drop (l.length - 1) = u ++ q := by
        rw [← e2]; exact (congrArg (List.drop p.length) e1).trans List.drop_left
      have := F_spec_l1Sub_eq ha (show Small l by show l.length < _; omega) (i := l.length - 1) (u := u) (r := q) hd e3
      rw [show (((l.length - 1 : Nat)) : Int) = (l.length : Int) - 1 by omega] at this
      rw [this, Option.bind_some]
      have hul : u.length ≤ l.length := by have := congrArg List.length e1; simp only [List.length_append] at this; omega
      exact Okk.inr (.some ⟨⟨hl60, by simp only; omega⟩, hi⟩)
    have h0 : ¬ (o.length : Int) = 0 := by simpa using ho
    refine Okk.need ⟨Nat.le_refl _, by omega⟩ (.some ⟨⟨j + 1, by simp, by omega, by simp [h2]⟩, by simp; omega⟩)
  simp only [h2, show ¬ (j : Int) < (n : Int) by omega, decide_false, Bool.false_eq_true, if_false]
  exact Okk.inr (.some ⟨⟨hl60, by simp only; omega⟩, hi⟩)
def RuleS (r : List Int × List Int) : Prop := r.1.length ≤ 200 ∧ r.2.length ≤ 200
theorem drawRule_ok {a c0 : List Int} (ha : sigOk a = true) (hs : Small c0) {i : Int} (h : Int) (hi : Cu c0 i) : Okk True (F_spec_l6DrawRule a c0 i h) fun r => RuleS r.1 ∧ Cu c0 r.2.1 := by
  have hal := sigOk_iff.1 ha
  unfold F_spec_l6DrawRule
  refine Okk.bind (below_ok hs hi 2 h) fun r hr => ?_
  have := hr.1
  have := hr.2.1 (by omega)
  rw [w64 (n := 2 + r.1) (by omega) (by omega)]
  refine Okk.bind (drawTermA_ok ha hs (vars := 2) (by omega) (by omega) 2 _ (by omega) (by omega) (by omega) hr.2.2.2) fun r1 h1 => ?_
  obtain ⟨l1, l2⟩ := termP_len h1 (by omega)
  refine Okk.need ⟨Nat.le_refl _, by omega⟩ (Okk.ite (fun _ => ?_) fun _ => ?_)
  · refine Okk.bind (below_ok hs h1.2 (a.length : Int) _) fun r2 h2 => ?_
    have hf : 0 ≤ r2.1 ∧ r2.1 < (a.length : Int) := ⟨h2.1, h2.2.1 (by omega)⟩
    refine Okk.need hf ?_
    have hk := hal.2.2 _ (getD_mem (show r2.1.toNat < a.length by omega))
    generalize hkk : a.getD r2.1.toNat default = kk at hk
    refine Okk.loop (fun q : List Int × Int × Int × Int => ∃ (j : Nat) (us : List Int), q.1 = r2.1 :: us ∧ Wf a j us ∧ us.length ≤ j * 1 ∧ q.2.1 = kk - j ∧ (j : Int) ≤ kk ∧ Cu c0 q.2.2.1) (fun q : List Int × Int × Int × Int => q.2.1.toNat)
      ⟨0, [], rfl, Wf.nil, by simp, by simp only; omega, by omega, h2.2.2.2⟩ ?_
    rintro ⟨out, k, i2, g⟩ ⟨j, us, rfl, h6, h7, rfl, h8, h9⟩
    simp only at h9
    simp only [F_spec_l6DrawRule_l1]
    refine Okk.ite (fun hc2 => ?_) fun hc2 => ?_
    · simp only [decide_eq_true_eq] at hc2
      refine Okk.bind (drawTermA_ok ha hs (vars := 2) (by omega) (by omega) 0 g (by omega) (by omega) (by omega) h9) fun r6 hr6 => ?_
      obtain ⟨⟨e1, e2⟩, e3⟩ := hr6
      simp only [tb] at e2
      refine Okk.need (by simp only [List.length_cons]; omega) (.some ?_)
      simp only [Rnd]
      rw [w64 (n := kk - j - 1) (by omega) (by omega)]
      exact ⟨⟨j + 1, us ++ r6.1, by simp, h6.app e1, by simp; omega, by omega, by omega, e3⟩, by omega⟩
    simp only [decide_eq_false_iff_not] at hc2
    have hw := sub_draw (c0 := c0) (d := 0) hf hkk h6 (by omega)
    refine Okk.inr ?_
    simp only [Rnd]
    refine Okk.bind (below_ok hs h9 3 _) fun r4 h4 => ?_
    have := h4.1
    have := h4.2.1 (by omega)
    rw [w64 (n := 1 + r4.1) (by omega) (by omega)]
    refine Okk.bind (drawTerm1A_ok ha hs (vars := 2) (by omega) (by omega) 2 _ (by omega) (by omega) (by omega) h4.2.2.2) fun r5 h5 => ?_
    exact mend_loop ha hw (by simp; omega) h5.2 (n := r5.1.length) (by have := (termP_len h5 (by omega)).2; omega) rfl (by funext ⟨x, y⟩; rfl)
  refine Okk.bind (below_ok hs h1.2 3 _) fun r4 h4 => ?_
  have := h4.1
  have := h4.2.1 (by omega)
  rw [w64 (n := 1 + r4.1) (by omega) (by omega)]
  refine Okk.bind (drawTerm1A_ok ha hs (vars := 2) (by omega) (by omega) 2 _ (by omega) (by omega) (by omega) h4.2.2.2) fun r5 h5 => ?_
  exact mend_loop ha h1.1.1 (by omega) h5.2 (n := r5.1.length) (by have := (termP_len h5 (by omega)).2; omega) rfl (by funext ⟨x, y⟩; rfl)
end Go.Proofs.YtcaljngigbfadaaGreat
namespace Go.Proofs.YtcaljngigbfadaaGreat
open Go Abx Tm
def SysS (s : Sys) : Prop := SigS s.1 ∧ s.2.length ≤ 20
theorem draw6_ok {c0 : List Int} (hs : Small c0) {i : Int} (h : Int) (hi : Cu c0 i) : Okk True (F_spec_l6Draw_s1 c0 i h) fun r => (SigS r.1 ∧ r.2.1.length ≤ 10) ∧ Cu c0 r.2.2.1 := by
  unfold F_spec_l6Draw_s1
  refine Okk.bind (once_ok hs hi 2 h) fun r hr => Okk.ite (fun _ => ?_) fun _ => ?_
  · refine Okk.bind (below_ok hs hr 7 _) fun r1 h1 => ?_
    have key : Okk True (F_spec_l6Known_s1 r1.1) fun s : Sys => SigS s.1 ∧ s.2.length ≤ 10 := by
      have key : ∀ s : Sys, s.1 = [2, 1, 0] → s.2.length ≤ 3 → SigS s.1 ∧ s.2.length ≤ 10 := fun s h1 h2 => ⟨⟨by rw [h1]; decide, by rw [h1]; decide⟩, by omega⟩
      unfold F_spec_l6Known_s1
      refine Okk.ite (fun _ => .some (key _ rfl (by decide))) fun _ => Okk.ite (fun _ => .some (key _ rfl (by decide))) fun _ => Okk.ite (fun _ => .some (key _ rfl (by decide))) fun _ => Okk.ite (fun _ => .some (key _ rfl (by decide))) fun _ =>
        Okk.ite (fun _ => .some (key _ rfl (by decide))) fun _ => Okk.ite (fun _ => .some (key _ rfl (by decide))) fun _ => .some (key _ rfl (by decide))
    exact Okk.bind key fun s hs => .some ⟨hs, h1.2.2.2⟩
  refine Okk.bind (drawSig_ok hs hr _) fun r3 h3 => Okk.bind (below_ok hs h3.2 4 _) fun r4 h4 => ?_
  have hS := sigS_of h3.1.1
  refine Okk.loop (fun q : Int × Int × Int × List (List Int × List Int) => 0 ≤ q.1 ∧ q.1 < 4 ∧ Cu c0 q.2.1 ∧ (q.2.2.2.length : Int) + q.1 ≤ 4) (fun q : Int × Int × Int × List (List Int × List Int) => q.1.toNat)
    ⟨h4.1, h4.2.1 (by omega), h4.2.2.2, by have := h4.2.1 (by omega); simp; omega⟩ ?_
  rintro ⟨n, i2, g, rs⟩ ⟨e1, e2, e3, e4⟩
  simp only at e1 e2 e3 e4
  simp only [F_spec_l6Draw_s1_l1]
  refine Okk.ite (fun hc => ?_) fun hc => ?_
  · simp only [decide_eq_true_eq] at hc
    refine Okk.bind (drawRule_ok h3.1.1 hs g e3) fun r5 h5 => Okk.need (by omega) (.some ?_)
    simp only [Rnd]
    rw [w64 (n := n - 1) (by omega) (by omega)]
    exact ⟨⟨by omega, by omega, h5.2, by simp; omega⟩, by omega⟩
  exact Okk.inr (.some ⟨⟨hS, by simp only; omega⟩, e3⟩)
theorem drawAny6_ok {c0 : List Int} (hs : Small c0) {i : Int} (h : Int) (hi : Cu c0 i) : Okk True (F_spec_l6DrawAny c0 i h) fun r => SysS r.1 ∧ Cu c0 r.2.1 := by
  unfold F_spec_l6DrawAny
  refine Okk.bind (draw6_ok hs h hi) fun r hr => ?_
  obtain ⟨⟨s1, s2⟩, s3⟩ := hr
  refine Okk.bind (once_ok hs s3 15 _) fun r1 h1 => Okk.ite (fun _ => ?_) fun _ => .some ⟨⟨s1, by simp only; omega⟩, h1⟩
  refine Okk.bind (below_ok hs h1 4 _) fun r2 h2 => ?_
  refine Okk.ite (fun _ => ?_) fun _ => Okk.ite (fun _ => ?_) fun _ => Okk.ite (fun _ => ?_) fun _ => Okk.ite (fun _ => ?_) fun _ => .some ⟨⟨s1, by simp only; omega⟩, h2.2.2.2⟩
  · exact Okk.bind (drawAny_ok hs _ h2.2.2.2) fun r3 h3 => Okk.bind (drawAny_ok hs _ h3.2) fun r4 h4 => Okk.need (by omega) (.some ⟨⟨s1, by simp; omega⟩, h4.2⟩)
  · exact Okk.bind (drawSigAny_ok hs h2.2.2.2 _) fun r5 h5 => .some ⟨⟨h5.1, by simp only; omega⟩, h5.2⟩
  · refine Okk.loop (fun q : List (List Int × List Int) => q.length ≤ 20) (fun q : List (List Int × List Int) => 20 - q.length) (by omega) ?_
    intro q hq
    simp only [F_spec_l6DrawAny_l1]
    refine Okk.ite (fun hc => ?_) fun hc => Okk.inr (.some ⟨⟨s1, hq⟩, h2.2.2.2⟩)
    simp only [decide_eq_true_eq] at hc
    exact Okk.need (by omega) (.some ⟨by simp; omega, by simp; omega⟩)
  exact Okk.need (by omega) (.some ⟨⟨s1, by simp; omega⟩, h2.2.2.2⟩)
theorem draw2_ok {a c0 : List Int} (ha : sigOk a = true) (hs : Small c0) {i : Int} (h : Int) (hi : Cu c0 i) : Okk True (F_spec_l2Draw a c0 i h) fun r => (r.1.length ≤ 24 ∧ ∀ u ∈ r.1, u.length ≤ 60) ∧ Cu c0 r.2.1 := by
  unfold F_spec_l2Draw
  refine Okk.bind (below_ok hs hi 4 h) fun r hr => ?_
  refine Okk.loop (fun q : Int × Int × Int × Bd => 0 ≤ q.1 ∧ q.1 < 4 ∧ Cu c0 q.2.1 ∧ (q.2.2.2.length : Int) + q.1 ≤ 4 ∧ ∀ u ∈ q.2.2.2, u.length ≤ 60) (fun q : Int × Int × Int × Bd => q.1.toNat)
    ⟨hr.1, hr.2.1 (by omega), hr.2.2.2, by have := hr.2.1 (by omega); simp; omega, by simp⟩ ?_
  rintro ⟨n, i2, g, s⟩ ⟨e1, e2, e3, e4, e5⟩
  simp only at e1 e2 e3 e4 e5
  simp only [F_spec_l2Draw_l1]
  refine Okk.ite (fun hc => ?_) fun hc => Okk.inr (.some ⟨⟨by simp only; omega, e5⟩, e3⟩)
  simp only [decide_eq_true_eq] at hc
  refine Okk.bind (once_ok hs e3 3 _) fun r1 h1 => Okk.ite (fun _ => ?_) fun _ => ?_
  · refine Okk.need (by omega) (.some ?_)
    simp only [Rnd]
    rw [w64 (n := n - 1) (by omega) (by omega)]
    refine ⟨⟨by omega, by omega, h1, by simp; omega, fun u hu => ?_⟩, by omega⟩
    rcases List.mem_append.1 hu with hu | hu
    · exact e5 u hu
    simp at hu; subst hu; simp
  refine Okk.bind (below_ok hs h1 3 _) fun r2 h2 => ?_
  have := h2.1
  have := h2.2.1 (by omega)
  rw [w64 (n := 1 + r2.1) (by omega) (by omega)]
  refine Okk.bind (drawTermA_ok ha hs (vars := 3) (by omega) (by omega) 2 _ (by omega) (by omega) (by omega) h2.2.2.2) fun r3 h3 => Okk.need (by omega) (.some ?_)
  simp only [Rnd]
  rw [w64 (n := n - 1) (by omega) (by omega)]
  have hl := (termP_len h3 (by omega)).2
  refine ⟨⟨by omega, by omega, h3.2, by simp; omega, fun u hu => ?_⟩, by omega⟩
  rcases List.mem_append.1 hu with hu | hu
  · exact e5 u hu
  simp at hu; subst hu; omega
theorem drawTerm7_ok {s : Sys} {c0 : List Int} (hs : Small c0) {i : Int} (h : Int) (hi : Cu c0 i) : Okk True (F_spec_l7DrawTerm s c0 i h) fun r => Cu c0 r.2.1 := by
  have any : ∀ {i' : Int} (g : Int), Cu c0 i' → Okk True ((F_spec_l1DrawAny s.1 c0 i' g).bind fun r => some r) fun r => Cu c0 r.2.1 := fun g hi' => Okk.bind (drawAny_ok hs g hi') fun r hr => .some hr.2
  unfold F_spec_l7DrawTerm
  rw [F_spec_SystemOk_eq, Option.bind_some]
  refine Okk.ite (fun hok => ?_) fun _ => any _ hi
  obtain ⟨ha, hl, hr⟩ := sysOk_iff.1 hok
  refine Okk.ite (fun hc => ?_) fun _ => any _ hi
  simp only [decide_eq_true_eq] at hc
  refine Okk.bind (once_ok hs hi 2 _) fun r1 h1 => Okk.ite (fun _ => ?_) fun _ => any _ h1
  refine Okk.bind (draw2_ok ha hs _ h1) fun r2 h2 => Okk.bind (below_ok hs h2.2 (s.2.length : Int) _) fun r3 h3 => ?_
  have hf : 0 ≤ r3.1 ∧ r3.1 < (s.2.length : Int) := ⟨h3.1, h3.2.1 hc⟩
  refine Okk.need hf ?_
  obtain ⟨hL, _⟩ := ruleOk_iff.1 (hr _ (getD_mem (show r3.1.toNat < s.2.length by omega)))
  obtain ⟨_, _, hL60, hLw⟩ := termOk_iff.1 hL
  rw [F_spec_l2Filled_eq h2.1.1 h2.1.2 hL60 (fun x hx => (hLw.all x hx).1), Option.bind_some]
  cases hfo : fillO (Tm.sig r2.1) (s.2.getD r3.1.toNat default).1 with
  | none => simp only [encO, Bool.false_eq_true, if_false]; exact any _ h3.2.2.2
  | some v =>
    have hv : v.length ≤ 60 := by
      unfold fillO at hfo
      split at hfo
      · rename_i h; cases hfo; exact h
      cases hfo
    simp only [encO, if_true]
    refine Okk.bind (once_ok hs h3.2.2.2 2 _) fun r5 h5 => Okk.ite (fun _ => .some h5) fun _ => ?_
    refine Okk.bind (drawTermA_ok ha hs (vars := 2) (by omega) (by omega) 2 _ (by omega) (by omega) (by omega) h5) fun r6 h6 => ?_
    obtain ⟨l1, l2⟩ := termP_len h6 (by omega)
    refine Okk.bind (below_ok hs h6.2 (r6.1.length : Int) _) fun r7 h7 => ?_
    have h71 := h7.2.1 (by omega)
    have h70 := h7.1
    obtain ⟨p, u, q, e1, e2, e3⟩ := h6.1.1.place (i := r7.1.toNat) (by omega)
    have hput := F_spec_l3Put_eq (p := p) (u := u) (s := q) (v := v) ha e3 (by rw [← e1]; omega) hv
    rw [← e1, e2, show ((r7.1.toNat : Nat) : Int) = r7.1 by omega] at hput
    rw [hput, Option.bind_some]
    exact Okk.ite (fun _ => .some h7.2.2.2) fun _ => any _ h7.2.2.2
end Go.Proofs.YtcaljngigbfadaaGreat
namespace Go.Proofs.YtcaljngigbfadaaGreat
open Go Abx Tm
theorem num_ok {c0 : List Int} (hs : Small c0) {i : Int} (hi : Cu c0 i) (n h : Int) : Okk True (F_spec_l1Num n c0 i h) fun r => Cu c0 r.2.1 := by
  unfold F_spec_l1Num
  refine Okk.bind (once_ok hs hi 10 h) fun r hr => Okk.ite (fun _ => ?_) fun _ => ?_
  · exact Okk.bind (odd_ok hs hr _) fun r1 h1 => Okk.bind (below_ok hs h1 4 _) fun r2 h2 => Okk.need ⟨h2.1, h2.2.1 (by omega)⟩ (.some h2.2.2.2)
  refine Okk.bind (once_ok hs hr 2 _) fun r3 h3 => Okk.ite (fun _ => ?_) fun _ => Okk.bind (below_ok hs h3 _ _) fun r6 h6 => .some h6.2.2.2
  refine Okk.bind (P := fun _ => True) ?_ fun r4 _ => Okk.bind (below_ok hs h3 _ _) fun r5 h5 => .some h5.2.2.2
  unfold F_spec_l1Min
  exact Okk.ite (fun _ => .some trivial) fun _ => .some trivial
end Go.Proofs.YtcaljngigbfadaaGreat
namespace Go.Proofs.YtcaljngigbfadaaGreat
open Go Abx Tm
theorem stepsFrom_ok (s : Sys) (t : List Int) : Okk True (F_spec_StepsFrom s t) fun r => r.length ≤ 1000 := by
  unfold F_spec_StepsFrom
  rw [F_spec_l7Right_eq, Option.bind_some]
  refine Okk.ite (fun hok => ?_) fun _ => .some (by simp)
  simp only [Bool.and_eq_true] at hok
  obtain ⟨h1, h2⟩ := hok
  obtain ⟨_, hl, _⟩ := sysOk_iff.1 h1
  obtain ⟨_, _, ht, _⟩ := termOk_iff.1 h2
  refine Okk.bind (P := fun r => r.length ≤ 1000) ?_ fun r hr => .some hr
  unfold F_spec_l7Steps
  refine Okk.loop (fun q : List Stp × Int => ∃ i : Nat, q.2 = i ∧ i ≤ t.length ∧ q.1.length ≤ 12 * i) (fun q : List Stp × Int => t.length - q.2.toNat) ⟨0, rfl, by omega, by simp⟩ ?_
  rintro ⟨out, _⟩ ⟨i, rfl, e1, e2⟩
  simp only at e2
  simp only [F_spec_l7Steps_l1]
  by_cases hi : i < t.length
  · simp only [show (i : Int) < t.length by omega, decide_true, if_true]
    refine Okk.loop (fun q : List Stp × Int => ∃ j : Nat, q.2 = j ∧ j ≤ s.2.length ∧ q.1.length ≤ 12 * i + j) (fun q : List Stp × Int => s.2.length - q.2.toNat) ⟨0, rfl, by omega, by simpa using e2⟩ ?_
    rintro ⟨o2, _⟩ ⟨j, rfl, e3, e4⟩
    simp only at e4
    simp only [F_spec_l7Steps_l2]
    by_cases hj : j < s.2.length
    · simp only [show (j : Int) < s.2.length by omega, decide_true, if_true, F_spec_l7Step_eq h1 h2 hi hj, Option.bind_some, w64 (n := (j : Int) + 1) (by omega) (by omega)]
      exact Okk.ite (fun _ => Okk.need (by omega) (.some ⟨⟨j + 1, by simp, by omega, by simp; omega⟩, by simp; omega⟩)) fun _ => .some ⟨⟨j + 1, by simp, by omega, by simp only; omega⟩, by simp; omega⟩
    simp only [show ¬ (j : Int) < s.2.length by omega, decide_false, Bool.false_eq_true, if_false, Option.map_some, w64 (n := (i : Int) + 1) (by omega) (by omega)]
    exact .some ⟨⟨i + 1, by simp, by omega, by simp only; omega⟩, by simp; omega⟩
  simp only [show ¬ (i : Int) < t.length by omega, decide_false, Bool.false_eq_true, if_false, Option.map_some]
  exact .some (by simp only [Rnd]; omega)
theorem drawNear_ok {s : Sys} {t c0 : List Int} (hs : Small c0) {i : Int} (h : Int) (hi : Cu c0 i) : Okk True (F_spec_l22DrawNear s t c0 i h) fun r => Cu c0 r.2.1 := by
  unfold F_spec_l22DrawNear
  refine Okk.bind (stepsFrom_ok s t) fun r hr => Okk.ite (fun hc => ?_) fun _ => Okk.bind (drawTerm7_ok hs h hi) fun r7 h7 => .some h7
  simp only [decide_eq_true_eq] at hc
  refine Okk.bind (once_ok hs hi 4 _) fun r1 h1 => Okk.ite (fun _ => Okk.bind (drawTerm7_ok hs _ h1) fun r2 h2 => .some h2) fun _ => ?_
  refine Okk.bind (below_ok hs h1 (r.length : Int) _) fun r3 h3 => Okk.need ⟨h3.1, h3.2.1 hc⟩ (Okk.bind (stepsFrom_ok s _) fun r4 h4 => Okk.ite (fun hc4 => ?_) fun _ => .some h3.2.2.2)
  simp only [decide_eq_true_eq] at hc4
  exact Okk.bind (once_ok hs h3.2.2.2 2 _) fun r5 h5 => Okk.ite (fun _ => Okk.bind (below_ok hs h5 _ _) fun r6 h6 => Okk.need ⟨h6.1, h6.2.1 hc4⟩ (.some h6.2.2.2)) fun _ => .some h5
theorem drawFuel_ok {c0 : List Int} (hs : Small c0) {i : Int} (h : Int) (hi : Cu c0 i) : Okk True (F_spec_l22DrawFuel c0 i h) fun r => Cu c0 r.2.1 := by
  unfold F_spec_l22DrawFuel
  exact Okk.bind (once_ok hs hi 10 h) fun r hr => Okk.ite (fun _ => Okk.bind (num_ok hs hr 60 _) fun r1 h1 => .some h1) fun _ => Okk.bind (below_ok hs hr 25 _) fun r2 h2 => .some h2.2.2.2
theorem drawShown_ok {code : List Int} (hs : Small code) : Okk True (F_spec_DrawShownBy code) fun _ => True := by
  unfold F_spec_DrawShownBy F_spec_l22Draw
  refine Okk.bind (new_ok hs) fun r hr => ?_
  rw [hr.1, hr.2]
  have hcu : Cu code 0 := ⟨by omega, by omega⟩
  refine Okk.bind (P := fun _ => True) ?_ fun _ _ => .some trivial
  exact Okk.bind (drawAny6_ok hs _ hcu) fun r1 h1 => Okk.bind (drawTerm7_ok hs _ h1.2) fun r2 h2 => Okk.bind (drawNear_ok hs _ h2) fun r3 h3 => Okk.bind (drawFuel_ok hs _ h3) fun r4 _ => .some trivial
end Go.Proofs.YtcaljngigbfadaaGreat
namespace Go.Proofs.YtcaljngigbfadaaGreat
open Go Abx Tm
theorem law_pure (code : List Int) : PFun Tryz.prog 7 [(slD 1 (kD .u8)) code] (bD true) := c_laws_FnWordShown (F_laws_FnWordShown_eq (by
  by_cases h : 4096 < code.length
  · exact .inl h
  obtain ⟨r, h1, _⟩ := (drawShown_ok (code := code) (show List.length _ < _ by omega)).get
  exact .inr ⟨r, h1⟩))
end Go.Proofs.YtcaljngigbfadaaGreat
