/- The statement FnExactCWalkOfSaid is proved: the law FnExactCWalkOf returns true at every input and leaves the input as it was; nothing is assumed. -/
import Derived.Test.YtklfjpilhbkekaaGreatZbase
import Derived.ProofKit
import Derived.OpenShut
import Derived.Below
import Derived.Test.YtklfjpilhbkekaaGreatZpd
import Derived.Carry
import Derived.Test.YtklfjpilhbkekaaGreatRows
import Derived.Test.YtklfjpilhbkekaaGreatZpw
import Derived.Test.YtklfjpilhbkekaaGreatZk
set_option linter.all false
namespace Go.Proofs.YtklfjpilhbkekaaGreat
open Go Abx Go.ChangeShapes Go.WideShapes Go.ChangeAt Go.RowKit
abbrev NoO : Abx.Own := fun _ _ => False
theorem z5k {P : Program} {f : Nat} {ds : List D} {r : D} (h : p7 P f ds r) {W : World} {vs : Array Value} (h1 : ∀ v ∈ vs.toList, True) (hd : AV.oks (fun _ => .no) NoO W (ds.map .d) vs.toList) :
 Calls P f vs W fun e W' => (∃ u, e = .returned u /\ D.ok NoO W' r u) /\ Below W.heap.size W W' := by
 have no : ∀ (b o : Nat), ¬ ({ O := fun _ _ => False, β := fun _ => .no, s := [], w := W, k := 0 } : Ctx).forb (fun _ => .no) [] b o := fun b o h => by
  rcases h with h | ⟨i, h⟩
  ·exact h
  ·exact h
 have hI : Inv { O := fun _ _ => False, β := fun _ => .no, s := [], w := W, k := 0 } (fun _ => .no) [] W :=
  ⟨Nat.le_refl _, rfl, fun _ _ _ h _ => h, fun _ _ _ => rfl, fun _ _ h => .inl h, fun id b h => .inl ⟨id, h⟩, fun _ h => absurd h (Nat.not_lt_zero _), fun _ _ h => h.elim, fun _ => rfl, fun _ _ _ h => h.elim⟩
 have ha : AV.oks (fun _ => .no) (({ O := fun _ _ => False, β := fun _ => .no, s := [], w := W, k := 0 } : Ctx).forb (fun _ => .no) []) W (ds.map .d) vs.toList := by
  have e : (({ O := fun _ _ => False, β := fun _ => .no, s := [], w := W, k := 0 } : Ctx).forb (fun _ => .no) []) = NoO := by
   funext b o
   exact propext ⟨fun h => no b o h, fun h => h.elim⟩
  rw [e]; exact hd
 refine (h { O := fun _ _ => False, β := fun _ => .no, s := [], w := W, k := 0 } vs rfl rfl hI ha).mono fun e W' hq => ?_
 obtain ⟨u, x, β', s', rfl, hi, hx, rfl⟩ := hq
 simp only [AV.ok] at hx
 refine ⟨⟨u, rfl, D.ok_mono (fun b o v hc _ => ⟨hc, fun h => h⟩) _ _ hx⟩, ?_⟩
 have hio := hi.io
 simp only [wio, Prod.mk.injEq] at hio
 exact ⟨hio.1, hio.2.2, hio.2.1, hi.size, fun k hk => hi.blks k hk fun id h => h⟩
theorem z6c {b o i : Nat} : Addr.add ⟨b, o, none⟩ i = ⟨b, o + i, none⟩ := by
 by_cases h : i = 0
 ·simp [Addr.add, h]
 ·simp [Addr.add, h]
def Rd (P : Program) (t : TypeId) (e : Nat) {α : Type} (f : α -> D) (G : α -> Prop) : Prop :=
 P.cellsOf t = e /\ ∀ {H : Type} {enc : TypeId × Value -> H} {w : World} {spare : Nat -> Bool} {held : Bool} {n : Nat} {cs : List Value} {x : DataW H × List MemPlace},
  DataW.trod enc P w 0 spare held n t cs = some x -> ∃ y, G y /\ cs.length = e /\ (∀ v ∈ cs, one v = true) /\ D.oks NoO w (z6 (f y)) cs
def RdF (P : Program) (fs : List Field) (o m : Nat) {α : Type} (F : α -> List D) (G : α -> Prop) : Prop :=
 ∀ ⦃H : Type⦄ ⦃enc : TypeId × Value -> H⦄ ⦃w : World⦄ ⦃spare : Nat -> Bool⦄ ⦃held : Bool⦄ ⦃n : Nat⦄ ⦃cs : List Value⦄, cs.length = m ->
  (∀ f ∈ fs, ∃ z : DataW H × List MemPlace, DataW.trod enc P w 0 spare held n f.type ((cs.drop f.offset).take (P.cellsOf f.type)) = some z) ->
  ∃ y, G y /\ (∀ v ∈ cs.drop o, one v = true) /\ D.oks NoO w (F y) (cs.drop o)
theorem m2q {O : Abx.Own} {w : World} : ∀ {xs ys : List D} {us vs : List Value}, D.oks O w xs us -> D.oks O w ys vs -> D.oks O w (xs ++ ys) (us ++ vs)
 | [], _, us, _, h, h2 => by simp only [D.oks] at h; subst h; exact h2
 | x :: xs, _, us, _, h, h2 => by
  simp only [D.oks] at h
  obtain ⟨v, r, rfl, h1, h3, h4⟩ := h
  simp only [List.cons_append, D.oks]
  exact ⟨v, _, rfl, h1, h3, m2q h4 h2⟩
theorem RdF.nil {P : Program} {m : Nat} : RdF P [] m m (fun _ : Unit => []) (fun _ => True) := fun H enc w spare held n cs hl _ => by
 rw [List.drop_of_length_le (by omega)]
 exact ⟨(), trivial, fun v hv => (List.not_mem_nil hv).elim, rfl⟩
theorem RdF.cons {P : Program} {f : Field} {fs : List Field} {o o' m e : Nat} {α β : Type} {g : α -> D} {F : β -> List D} {G : α -> Prop} {G' : β -> Prop} (ho : f.offset = o) (h : Rd P f.type e g G) (ho' : o' = o + e) (hs : RdF P fs o' m F G') :
 RdF P (f :: fs) o m (fun y : α × β => z6 (g y.1) ++ F y.2) (fun y => G y.1 /\ G' y.2) := fun H enc w spare held n cs hl hf => by
 subst ho; subst ho'
 obtain ⟨z, hz⟩ := hf f (by simp)
 obtain ⟨y, g1, g2, g3, g4⟩ := h.2 hz
 obtain ⟨y', k1, k2, k3⟩ := hs hl (fun f' hf' => hf f' (by simp [hf']))
 have e1 : cs.drop f.offset = (cs.drop f.offset).take (P.cellsOf f.type) ++ cs.drop (f.offset + e) := by rw [h.1, <- List.drop_drop, List.take_append_drop]
 refine ⟨(y, y'), ⟨g1, k1⟩, ?_, ?_⟩
 ·rw [e1]
  intro v hv
  rcases List.mem_append.1 hv with hv | hv
  ·exact g3 v hv
  ·exact k2 v hv
 ·rw [e1]
  exact m2q g4 k3
theorem Rd.struct {P : Program} {t : TypeId} {fs : Array Field} {m : Nat} {α β : Type} {F : α -> List D} {G : α -> Prop} {f : β -> D} {G' : β -> Prop} (j : α -> β) (ht : P.underlying t = some (.struct fs)) (hm : P.cellsOf t = m)
 (h : RdF P fs.toList 0 m F G) (hj : ∀ y, z6 (f (j y)) = F y) (hG : ∀ y, G y -> G' (j y)) : Rd P t m f G' := ⟨hm, fun {H enc w spare held n cs x} hx => by
 obtain ⟨xs, n', rfl, _, hl, hxl, hall⟩ := DataW.trod_struct ht hx
 obtain ⟨y, g1, g2, g3⟩ := h (n := n') (hl.trans hm) (fun f hf => by
  obtain ⟨i, hi⟩ := List.getElem?_of_mem hf
  have hi' : fs[i]? = some f := by simpa using hi
  rw [hall i f hi']
  have : i < xs.length := by rw [hxl]; exact (Array.getElem?_eq_some_iff.1 hi').1
  exact ⟨xs[i], List.getElem?_eq_getElem this⟩)
 exact ⟨j y, hG y g1, hl.trans hm, by simpa using g2, by rw [hj]; simpa using g3⟩⟩
theorem Rd.int {P : Program} {t : TypeId} (ht : P.underlying t = some (.int .i64)) (hm : P.cellsOf t = 1) : Rd P t 1 iD (fun _ => True) := ⟨hm, fun {H enc w spare held n cs x} hx => by
 obtain ⟨m, hm⟩ := DataW.trod_int ht hx
 obtain ⟨rfl, _⟩ := hm
 exact ⟨m, trivial, rfl, by simp [one], ⟨_, _, rfl, rfl, ⟨rfl, rfl⟩, rfl⟩⟩⟩
abbrev k8g {α : Type} (xs : List α) : Prop := xs.length < 9223372036854775808
theorem Rd.slice {P : Program} {t e : TypeId} {k : Nat} {α : Type} {f : α -> D} {G : α -> Prop} [Cel f k] (ht : P.underlying t = some (.slice e)) (hm : P.cellsOf t = 1) (hk : 0 < k) (h : Rd P e k f G) (hcel : ∀ y O w vs, D.oks O w (z6 (f y)) vs -> D.cel O w (f y) vs) :
 Rd P t 1 (z7 k f) (fun xs => k8g xs /\ ∀ x ∈ xs, G x) := ⟨hm, fun {H enc w spare held n cs x} hx => by
 rcases DataW.trod_slice ht hx with ⟨rfl, _⟩ | ⟨a, len, cap, elems, rest, n', rfl, rfl, _, _, hl, hmx, hlen, hel, _, _⟩
 ·refine ⟨[], ⟨by show (0 : Nat) < 9223372036854775808; decide, fun x hx => (List.not_mem_nil hx).elim⟩, rfl, by simp [one], ⟨_, _, rfl, rfl, ?_, rfl⟩⟩
  simp only [z7, D.ok]
  exact ⟨none, 0, rfl, ⟨Nat.le_refl _, by decide⟩, trivial, .inl rfl⟩
 ·have hmx' : cap < 9223372036854775808 := by have : maxLen = 2 ^ 63 - 1 := rfl; omega
  have each : ∀ i, i < len -> ∃ y vs, G y /\ vs.length = k /\ (∀ v ∈ vs, one v = true) /\ D.oks NoO w (z6 (f y)) vs /\ ∀ j, j < k -> w.cell? ((a.add (i * k)).add j) = vs[j]? := by
   intro i hi
   have h1 := hel i hi
   rw [h.1, List.getElem?_eq_getElem (show i < elems.length by omega), bes] at h1
   obtain ⟨vs, h2, h3⟩ := h1
   obtain ⟨y, g1, g2, g3, g4⟩ := h.2 h3
   obtain ⟨_, _, h5⟩ := World.cells?_some h2
   exact ⟨y, vs, g1, g2, g3, g4, h5⟩
  rcases Nat.eq_zero_or_pos len with h0 | hpos
  ·subst h0
   refine ⟨[], ⟨by show (0 : Nat) < 9223372036854775808; decide, fun x hx => (List.not_mem_nil hx).elim⟩, rfl, by simp [one], ⟨_, _, rfl, rfl, ?_, rfl⟩⟩
   simp only [z7, D.ok]
   exact ⟨some a, cap, rfl, ⟨hl, hmx'⟩, trivial, .inl rfl⟩
  have hs : a.spot = none := by
   obtain ⟨y, vs, _, g2, _, _, g5⟩ := each 0 hpos
   have h0 := g5 0 hk
   rw [List.getElem?_eq_getElem (show 0 < vs.length by omega)] at h0
   have := World.cell?_spot h0
   simpa [Addr.add] using this
  obtain ⟨b, o, sp⟩ := a
  simp only at hs
  subst hs
  have key : ∀ (m i : Nat), i + m = len -> ∃ ys : List α, ys.length = m /\ (∀ y ∈ ys, G y) /\ D.row NoO w b (o + i * k) k (ys.map f) := by
   intro m
   induction m with
   | zero => intro i _; exact ⟨[], rfl, fun y hy => (List.not_mem_nil hy).elim, by simp [D.row]⟩
   | succ m ih =>
    intro i hi
    obtain ⟨ys, y1, y2, y4⟩ := ih (i + 1) (by omega)
    obtain ⟨y, vs, g1, g2, g3, g4, g5⟩ := each i (by omega)
    refine ⟨y :: ys, by simp [y1], fun z hz => ?_, ?_⟩
    ·rcases List.mem_cons.1 hz with rfl | hz
     ·exact g1
     ·exact y2 z hz
    ·rw [List.map_cons]
     refine D.row_cons.2 ⟨⟨vs, g2, fun j v hj => ?_, hcel _ _ _ _ g4⟩, ?_⟩
     ·have hjk : j < k := by rw [<- g2]; exact (List.getElem?_eq_some_iff.1 hj).1
      have := g5 j hjk
      rw [hj] at this
      refine ⟨?_, fun h => h, g3 v (List.mem_of_getElem? hj)⟩
      rw [<- this, z6c, z6c]
     ·have := y4
      rwa [Nat.add_mul, Nat.one_mul, <- Nat.add_assoc] at this
  obtain ⟨ys, y1, y2, y4⟩ := key len 0 (by omega)
  refine ⟨ys, ⟨by show ys.length < 9223372036854775808; omega, y2⟩, rfl, by simp [one], ⟨_, _, rfl, rfl, ?_, rfl⟩⟩
  simp only [z7, D.ok]
  refine ⟨some ⟨b, o, none⟩, cap, by rw [List.length_map, y1], ⟨by rw [List.length_map]; omega, by omega⟩, trivial, ?_⟩
  exact .inr ⟨b, o, rfl, by simpa using y4⟩⟩
theorem Rd.agg {P : Program} {t : TypeId} {fs : Array Field} {m : Nat} {α : Type} {f : α -> D} {G : α -> Prop} (hr : Rd P t m f G) (ht : P.underlying t = some (.struct fs)) (hf : ∀ y, ∃ cs, f y = .agg cs) {W : World} {r : Reach} {base : Nat} {v : Value} (hv : Value.okWide P W r base t v)
 {H : Type} {enc : TypeId × Value -> H} {spare : Nat -> Bool} {held : Bool} {d : DataW H} {p : List MemPlace} (h : DataW.Trod enc P W 0 spare held t v d p) : ∃ y, G y /\ D.ok NoO W (f y) v := by
 unfold Value.okWide at hv
 rw [ht] at hv
 obtain ⟨cs, rfl, _, _⟩ := hv
 obtain ⟨fuel, hf'⟩ := h
 obtain ⟨y, g1, g2, g3, g4⟩ := hr.2 hf'
 obtain ⟨ds, hd⟩ := hf y
 refine ⟨y, g1, ?_⟩
 rw [hd] at g4 ⊢
 simp only [D.ok]
 exact ⟨cs, rfl, by simpa [z6, Value.cells] using g4⟩
theorem Rd.cell {P : Program} {t : TypeId} {α : Type} {f : α -> D} {G : α -> Prop} (hr : Rd P t 1 f G) (hf : ∀ y, z6 (f y) = [f y]) {W : World} {v : Value} (hv : v.cells = #[v])
 {H : Type} {enc : TypeId × Value -> H} {spare : Nat -> Bool} {held : Bool} {d : DataW H} {p : List MemPlace} (h : DataW.Trod enc P W 0 spare held t v d p) : ∃ y, G y /\ D.ok NoO W (f y) v := by
 obtain ⟨fuel, hf'⟩ := h
 obtain ⟨y, g1, g2, g3, g4⟩ := hr.2 hf'
 refine ⟨y, g1, ?_⟩
 rw [hf, hv] at g4
 simp only [D.oks] at g4
 obtain ⟨u, r, e, _, g5, _⟩ := g4
 simp at e
 rw [e.1]; exact g5
theorem ownZ : ownKnob Tryz.prog.godebug = none := by kernel_rfl
theorem j4s : laidOutB Tryz.prog = true := by kernel_rfl
theorem j3d {α : Type} {f : α -> D} (hf : ∀ y, ∃ cs, f y = .agg cs) : ∀ y O w vs, D.oks O w (z6 (f y)) vs -> D.cel O w (f y) vs := fun y O w vs h => by
 obtain ⟨cs, e⟩ := hf y
 rw [e] at h ⊢
 exact h
theorem cel_i : ∀ y O w vs, D.oks O w (z6 (iD y)) vs -> D.cel O w (iD y) vs := fun y O w vs h => by
 obtain ⟨v, r, e, _, h2, h3⟩ := h
 have h3' : r = [] := h3
 subst h3'
 exact ⟨v, e, h2⟩
theorem rd2 : Rd Tryz.prog 2 1 iD (fun _ => True) := Rd.int Tryz.underlying2 (by kernel_rfl)
theorem y0k : Rd Tryz.prog 22 1 (z7 1 iD) (fun xs => k8g xs /\ ∀ x ∈ xs, True) := Rd.slice Tryz.underlying22 (by kernel_rfl) (by decide) rd2 cel_i
theorem rd24 : Rd Tryz.prog 24 1 q6w (fun x => k8g x) := by
 have h := RdF.cons (P := Tryz.prog) (f := { name := "Arity", type := 22, offset := 0, embedded := false, tag := "", pkgPath := "", byteOffset := 0 }) (m := 1) rfl y0k rfl RdF.nil
 exact Rd.struct (fun y : q7 × Unit => y.1) Tryz.underlying24 (by kernel_rfl) h (fun _ => rfl) (fun _ h => h.1.1)
theorem rd308 : Rd Tryz.prog 308 2 c0q (fun x => k8g x.1 /\ k8g x.2) := by
 have h := RdF.cons (P := Tryz.prog) (f := { name := "L", type := 22, offset := 0, embedded := false, tag := "", pkgPath := "", byteOffset := 0 }) (m := 2) rfl y0k rfl (RdF.cons (f := { name := "R", type := 22, offset := 1, embedded := false, tag := "", pkgPath := "", byteOffset := 24 }) rfl y0k rfl RdF.nil)
 exact Rd.struct (fun y : q7 × q7 × Unit => (y.1, y.2.1)) Tryz.underlying308 (by kernel_rfl) h (fun _ => rfl) (fun _ h => ⟨h.1.1, h.2.1.1⟩)
theorem rd227 : Rd Tryz.prog 227 1 (z7 2 c0q) (fun xs => k8g xs /\ ∀ x ∈ xs, k8g x.1 /\ k8g x.2) := Rd.slice Tryz.underlying227 (by kernel_rfl) (by decide) rd308 (j3d fun _ => ⟨_, rfl⟩)
theorem rd229 : Rd Tryz.prog 229 3 z5q (fun x => k8g x.1 /\ k8g x.2.1 /\ k8g x.2.2 /\ ∀ c ∈ x.2.2, k8g c.1 /\ k8g c.2) := by
 have h := RdF.cons (P := Tryz.prog) (f := { name := "L", type := 22, offset := 0, embedded := false, tag := "", pkgPath := "", byteOffset := 0 }) (m := 3) rfl y0k rfl (RdF.cons (f := { name := "R", type := 22, offset := 1, embedded := false, tag := "", pkgPath := "", byteOffset := 24 }) rfl y0k rfl (RdF.cons (f := { name := "Conds", type := 227, offset := 2, embedded := false, tag := "", pkgPath := "", byteOffset := 48 }) rfl rd227 rfl RdF.nil))
 exact Rd.struct (fun y : q7 × q7 × Ty3 × Unit => (y.1, y.2.1, y.2.2.1)) Tryz.underlying229 (by kernel_rfl) h (fun _ => rfl) (fun _ h => ⟨h.1.1, h.2.1.1, h.2.2.1.1, h.2.2.1.2⟩)
theorem rd85 : Rd Tryz.prog 85 1 (z7 3 z5q) (fun xs => k8g xs /\ ∀ x ∈ xs, k8g x.1 /\ k8g x.2.1 /\ k8g x.2.2 /\ ∀ c ∈ x.2.2, k8g c.1 /\ k8g c.2) := Rd.slice Tryz.underlying85 (by kernel_rfl) (by decide) rd229 (j3d fun _ => ⟨_, rfl⟩)
theorem rd87 : Rd Tryz.prog 87 2 y5q (fun s => y0o s) := by
 have h := RdF.cons (P := Tryz.prog) (f := { name := "Sig", type := 24, offset := 0, embedded := false, tag := "", pkgPath := "", byteOffset := 0 }) (m := 2) rfl rd24 rfl (RdF.cons (f := { name := "Rules", type := 85, offset := 1, embedded := false, tag := "", pkgPath := "", byteOffset := 24 }) rfl rd85 rfl RdF.nil)
 exact Rd.struct (fun y : q7 × List (q7 × q7 × Ty3) × Unit => (y.1, y.2.1)) Tryz.underlying87 (by kernel_rfl) h (fun _ => rfl) (fun _ h => ⟨h.1, h.2.1.1, h.2.1.2⟩)
section
variable {H : Type} {enc : TypeId × Value -> H} {P : Program} {w : World} {base : Nat} {spare : Nat -> Bool} {held : Bool}
theorem z3o {t t' t'' t3 t4 : TypeId} {args : Array Value} {ds : List (DataW H)} {ps : List MemPlace} (h : DataW.TrodAll enc P w base spare held [t, t', t'', t3, t4] args.toList ds ps) :
 ∃ v v' v'' v3 v4 d d' d'' d3 d4 p p' p'' p3 p4, args = #[v, v', v'', v3, v4] /\ ds = [d, d', d'', d3, d4] /\ ps = p ++ p' ++ p'' ++ p3 ++ p4 /\ DataW.Trod enc P w base spare held t v d p /\ DataW.Trod enc P w base spare held t' v' d' p' /\ DataW.Trod enc P w base spare held t'' v'' d'' p'' /\
  DataW.Trod enc P w base spare held t3 v3 d3 p3 /\ DataW.Trod enc P w base spare held t4 v4 d4 p4 := by
 obtain ⟨v, vs, d, ds', p, q, hargs, rfl, rfl, hd, hrest⟩ := trodAll_cons h
 obtain ⟨v', vs', d', ds'', p', q', rfl, rfl, rfl, hd', hrest'⟩ := trodAll_cons hrest
 obtain ⟨v'', vs'', d'', ds''', p'', q'', rfl, rfl, rfl, hd'', hrest''⟩ := trodAll_cons hrest'
 obtain ⟨v3, vs3, d3, ds3, p3, q3, rfl, rfl, rfl, hd3, hrest3⟩ := trodAll_cons hrest''
 obtain ⟨v4, vs4, d4, ds4, p4, q4, rfl, rfl, rfl, hd4, hrest4⟩ := trodAll_cons hrest3
 obtain ⟨rfl, rfl, rfl⟩ := trodAll_nil hrest4
 exact ⟨v, v', v'', v3, v4, d, d', d'', d3, d4, p, p', p'', p3, p4, by cases args; simp_all, rfl, by simp, hd, hd', hd'', hd3, hd4⟩
end
theorem j4u {W : World} {v0 v1 v2 v3 v4 : Value} {s : CSy} {t : q7} {i k d : Int} (hs : y0o s) (h0 : D.ok NoO W (y5q s) v0) (h1 : D.ok NoO W (z7 1 iD t) v1) (h2 : D.ok NoO W (iD i) v2) (h3 : D.ok NoO W (iD k) v3) (h4 : D.ok NoO W (iD d) v4) :
 Calls Tryz.prog 6 #[v0, v1, v2, v3, v4] W fun e W' => e = .returned (.bool true) /\ Below W.heap.size W W' :=
 (z5k (k6z (t := t) (i := i) (k := k) (d := d) hs) (vs := #[v0, v1, v2, v3, v4]) (fun _ _ => trivial) ⟨v0, _, rfl, h0, v1, _, rfl, h1, v2, _, rfl, h2, v3, _, rfl, h3, v4, _, rfl, h4, rfl⟩).mono fun _ _ ⟨⟨_, h1, h2⟩, h3⟩ => by
  simp only [D.ok] at h2
  exact ⟨by rw [h1, h2.1], h3⟩
set_option maxRecDepth 100000 in
theorem q6m (os : Os) (started : os.Started) (H : Type) (enc : TypeId × Value -> H) :
 ReturnsInHanded {} Tryz.checked os 6 .any (Rows.fnExactCWalkOfSpec.pre6 enc Tryz.prog Tryz.f6 Rows.fnExactCWalkOfRow.domain false) (Rows.fnExactCWalkOfSpec.post enc Tryz.prog Tryz.f6 false true false false) := by
 refine returnsInHanded_of_change (C := Tryz.checked) ownZ started (by kernel_rfl) Tryz.func6
  (ChangeSpec.witness6 (enc := enc) (C := Tryz.checked) false ⟨#[], #[.agg #[.slice none 0 0, .slice none 0 0], .slice none 0 0, .int .i64 0, .int .i64 0, .int .i64 0], []⟩ 8 (by kernel_rfl) (by kernel_rfl) (by kernel_rfl) (by kernel_rfl)) ?_
 intro W base args ds gs before hval0 hW hcnd _
 have hval : ∀ (j : Nat) t v, Tryz.f6.params[j]? = some t -> args[j]? = some v -> Value.okWide Tryz.prog W .any base t v := hval0
 have hW' := hW
 obtain ⟨p, q, hA0, hV, rfl, hfz, hnd⟩ := hW
 have hA : DataW.TrodAll enc Tryz.prog W 0 (fun _ => true) true Tryz.f6.params.toList args.toList ds p := hA0
 rw [Tryz.params6] at hA hval
 obtain ⟨v0, v1, v2, v3, v4, d0, d1, d2, d3, d4, p0, p1, p2, p3, p4, rfl, rfl, rfl, t0, t1, t2, t3, t4⟩ := z3o hA
 obtain ⟨rfl, rfl⟩ := trodVars_none hV
 have k0 := t0
 have k1 := t1
 have k2 := t2
 have k3 := t3
 have k4 := t4
 have lt0 : ∀ x ∈ p0, x.block < W.heap.size := by obtain ⟨m, hm⟩ := t0; exact DataW.trod_lt m _ _ _ hm
 have lt1 : ∀ x ∈ p1, x.block < W.heap.size := by obtain ⟨m, hm⟩ := t1; exact DataW.trod_lt m _ _ _ hm
 have lt2 : ∀ x ∈ p2, x.block < W.heap.size := by obtain ⟨m, hm⟩ := t2; exact DataW.trod_lt m _ _ _ hm
 have lt3 : ∀ x ∈ p3, x.block < W.heap.size := by obtain ⟨m, hm⟩ := t3; exact DataW.trod_lt m _ _ _ hm
 have lt4 : ∀ x ∈ p4, x.block < W.heap.size := by obtain ⟨m, hm⟩ := t4; exact DataW.trod_lt m _ _ _ hm
 obtain ⟨s, hs, g0⟩ := rd87.agg Tryz.underlying87 (fun _ => ⟨_, rfl⟩) (hval 0 _ v0 rfl rfl) t0
 obtain ⟨a1, l1, c1, rfl⟩ := okWide_slice Tryz.underlying22 (hval 1 _ v1 rfl rfl)
 obtain ⟨n2, rfl⟩ := okWide_int Tryz.underlying2 (hval 2 _ v2 rfl rfl)
 obtain ⟨n3, rfl⟩ := okWide_int Tryz.underlying2 (hval 3 _ v3 rfl rfl)
 obtain ⟨n4, rfl⟩ := okWide_int Tryz.underlying2 (hval 4 _ v4 rfl rfl)
 obtain ⟨a, _, g1⟩ := y0k.cell (fun _ => rfl) rfl t1
 obtain ⟨i, _, g2⟩ := rd2.cell (fun _ => rfl) rfl t2
 obtain ⟨k, _, g3⟩ := rd2.cell (fun _ => rfl) rfl t3
 obtain ⟨d, _, g4⟩ := rd2.cell (fun _ => rfl) rfl t4
 clear hA0 hval0
 refine (j4u hs g0 g1 g2 g3 g4).mono fun e W' ⟨he, bel⟩ => ?_
 subst he
 have s0 := Below.trod j4s (by kernel_rfl) (of_decide_eq_true (by kernel_rfl)) k0 bel lt0
 have s1 := Below.trod j4s (by kernel_rfl) (of_decide_eq_true (by kernel_rfl)) k1 bel lt1
 have s2 := Below.trod j4s (by kernel_rfl) (of_decide_eq_true (by kernel_rfl)) k2 bel lt2
 have s3 := Below.trod j4s (by kernel_rfl) (of_decide_eq_true (by kernel_rfl)) k3 bel lt3
 have s4 := Below.trod j4s (by kernel_rfl) (of_decide_eq_true (by kernel_rfl)) k4 bel lt4
 exact ⟨_, rfl, _, _, _, [], _, [], hW', trodAll_mk1 (shut_bool Tryz.underlying4 _), trodAll_cons_mk s0 (trodAll_mk4 s1 s2 s3 s4), rfl, bel.frame _, fun h => by cases h⟩
open Go Abx Go.ChangeShapes Go.WideShapes Go.ChangeAt Go.RowKit
theorem fnExactCWalkOf_proved : Rows.FnExactCWalkOfSaid :=
 OpenClaim.holds_of_wide 6 Tryz.f6 rfl rfl rfl rfl rfl rfl rfl ⟨rfl, rfl, rfl, rfl, rfl⟩ rfl rfl rfl rfl rfl (by kernel_rfl) Tryz.func6 x7b
  (of_decide_eq_true (by kernel_rfl)) (by unfold Func.isWrapper; first | (rw [if_pos (by decide +kernel)]; kernel_rfl) | (rw [if_neg (by decide +kernel)]; exact ⟨rfl, rfl⟩))
  (fun os started H enc _ => q6m os started H enc)
end Go.Proofs.YtklfjpilhbkekaaGreat
