/- The growth of slices in this program by the shelf; nothing is assumed. -/
import Derived.Test.YtklfjpilhbkekaaGreatZshal
import Derived.Shelf.Spec.SlicesGrow
import Derived.Test.YtklfjpilhbkekaaGreatProg
import Derived.KernelRfl
set_option linter.all false
namespace Abx
open Go
theorem x0p {P : Program} {ρ : Go.Shelf.Ren} (L : Go.Proofs.Lays8.n4 P ρ) {i0 : TypeInfo} {z : Value} (hi0 : P.info? (ρ.t 25) = some i0) (hz0 : i0.zero = some z) (hs0 : 0 < i0.size) (hb0 : 0 < i0.bytes)
 (hz1 : z.cells.size = i0.size) (hz2 : ∀ v ∈ z.cells.toList, one v = true) {n : Int} (h0 : 0 <= n) (hb : n * i0.bytes <= 140737488355328) :
 x6 P (ρ.f 4) [.d (.sl 0 (some true) []), .d (iD n)] [] 0 fun x s' => x = .own i0.size 0 [] /\ s' = [(0, .tok (ρ.t 25) i0.size 0)] := fun C vs hs hk hinv hargs => by
 obtain ⟨m, rfl⟩ := Int.eq_ofNat_of_zero_le h0
 have hst : St C C.β [] C.s { tmps := #[], defers := [] } C.w := ⟨.nil, hinv, rfl, fun i x hx => by simp at hx⟩
 have hvs : vs = #[.slice none 0 0, .int .i64 m] := by
  simp only [AV.oks, AV.ok] at hargs
  obtain ⟨v, r, h1, h2, v2, r2, h3, h4, h5⟩ := hargs
  have h2 := k5v h2
  have h4 := q1b (β := C.β) (O := C.forb C.β C.s) (w := C.w) (by simp only [AV.ok]; exact h4)
  subst h2 h4 h5 h3
  exact Array.ext' (by simpa [q4f] using h1)
 subst hvs
 have hd : sat C.s 0 = .dead := by rw [hs]; rfl
 rcases Nat.eq_zero_or_pos m with rfl | hm
 ·refine (Go.Proofs.Any8.slices_Grow_room L none 0 0 0 C.w (Nat.le_refl _) (by omega) (by omega) (by omega)).mono ?_
  rintro e w' ⟨rfl, rfl⟩
  obtain ⟨h1, _⟩ := hst.tokNil (id := 0) (t := ρ.t 25) (e := i0.size) hd
  rw [hs] at h1
  exact ⟨_, .own i0.size 0 [], _, _, rfl, h1.inv, k9s (by simp [bset]), rfl, rfl⟩
 ·have hmb : m * i0.bytes <= 140737488355328 := by
   have : ((m * i0.bytes : Nat) : Int) <= 140737488355328 := by simpa using hb
   omega
  have hm47 : m <= 140737488355328 := Nat.le_trans (Nat.le_mul_of_pos_right _ hb0) hmb
  refine (Go.Proofs.Any8.slices_Grow_grow L i0 z hi0 hz0 hs0 none 0 0 m [] C.w (Nat.le_refl _) (by omega) (by simpa using hmb) (by omega) (by simp) (by simp) (by simp)).mono ?_
  rintro e w' ⟨rfl, rfl⟩
  have hcap1 := grownCap_ge C.w (0 + m) 0 (ρ.t 25)
  have hcap2 := grownCap_le_maxLen C.w (0 + m) 0 (ρ.t 25) (by unfold Go.maxLen; omega)
  obtain ⟨β', h1, h2⟩ := q7f hst.drew (id := 0) (t := ρ.t 25) (e := i0.size) (n := 0) (cap := grownCap C.w (0 + m) 0 (ρ.t 25))
   (c := ([] : List Value).toArray ++ Builtin.zeroCells z.cells (0 + m - 0) ++ Builtin.zeroCells z.cells (grownCap C.w (0 + m) 0 (ρ.t 25) - (0 + m))) (xs := [])
   (by have := hst.inv.obs 0; rw [hd] at this; rw [show C.β 0 = .no from this]; trivial)
   (by
    rw [Array.size_append, Array.size_append, size_zeroCells, size_zeroCells, hz1]
    simp only [List.size_toArray, List.length_nil, Nat.zero_add, Nat.sub_zero]
    rw [<- Nat.add_mul]
    congr 1
    simp only [Nat.zero_add] at hcap1
    omega)
   (Nat.zero_le _) (by unfold Go.maxLen at hcap2; omega)
   (fun v hv => by
    simp only [Array.toList_append, List.mem_append] at hv
    rcases hv with (hv | hv) | hv
    ·simp at hv
    ·exact l7q hz2 _ v hv
    ·exact l7q hz2 _ v hv)
   rfl (fun _ _ _ _ => by simp [D.row])
  rw [hs] at h1 h2
  exact ⟨_, .own i0.size 0 [], β', _, rfl, h1.inv, h2, rfl, rfl⟩
end Abx
/-
 DERIVED: THE SHELF's CONTRACTS AT THIS DUMP, IN PLAIN WORDS (tools/lay-plain.mjs out of 'YtklfjpilhbkekaaGreatLay.lean', which tools/lay-shelf.mjs wrote): THE SAME DECLARATIONS UNDER THE SAME NAMES: 'import', 'namespace', 'open', 'def', 'theorem' AND NOTHING ELSE: no command of the shelf's: FOR A HAND-IN. Each laying: the table of numbers ('.._ren') and one theorem, a field a fact of the dump's own or the kernel's comparison; each contract: ONE APPLICATION.
-/
namespace Go.Proofs
open Go.Shelf
def Tryz.grow243_ren : Go.Shelf.Ren := ⟨fun | 4 => 243 | n => n, fun | 22 => 22 | 25 => 2 | 3 => 3 | 4 => 4 | 9 => 9 | 20 => 20 | 0 => 0 | n => n, fun | n => n⟩
theorem Tryz.grow243 : Go.Proofs.Lays8.n4 Tryz.prog Tryz.grow243_ren := {
 mixed := by kernel_rfl
 f4 := ⟨Tryz.f243.name, by decide, Tryz.func243.trans (congrArg some (by kernel_rfl))⟩
 t0 := Tryz.underlying0
 a0 := Tryz.isAgg0
 z0 := Tryz.sizeOf0
 v0 := Tryz.zeroValue0
 t3 := Tryz.underlying3
 a3 := Tryz.isAgg3
 z3 := Tryz.sizeOf3
 v3 := Tryz.zeroValue3
 t4 := Tryz.underlying4
 a4 := Tryz.isAgg4
 z4 := Tryz.sizeOf4
 v4 := Tryz.zeroValue4
 t9 := Tryz.underlying9
 a9 := Tryz.isAgg9
 z9 := Tryz.sizeOf9
 v9 := Tryz.zeroValue9
 t20 := Tryz.underlying20
 a20 := Tryz.isAgg20
 z20 := Tryz.sizeOf20
 v20 := Tryz.zeroValue20
 t22 := Tryz.underlying22
 a22 := Tryz.isAgg22
 z22 := Tryz.sizeOf22
 v22 := Tryz.zeroValue22 }
end Go.Proofs
namespace Go.Proofs.YtklfjpilhbkekaaGreat
open Go Abx
abbrev q7 := List Int
abbrev Ty1 := List q7
abbrev Ty2 := q7 × q7
abbrev Ty3 := List Ty2
abbrev Ty4 := Int × Int × q7
abbrev Ty5 := List Ty4
abbrev Ty6 := q7 × Ty3
abbrev Ty7 := q7 × Ty5
abbrev Ty8 := q7 × q7 × Ty3
abbrev Ty9 := List Ty8
abbrev TyA := q7 × Ty9
theorem y6n : (Tryz.prog.follows .mixedOrders = true) = True := eq_true (by kernel_rfl)
attribute [go_sem] y6n
instance : Inhabited ByteArray := ⟨ByteArray.empty⟩
end Go.Proofs.YtklfjpilhbkekaaGreat
