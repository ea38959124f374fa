/- The layer of data and running functions, and its rules; nothing is assumed. -/
import Derived.Test.YtglpjlpmijfocaaGreatCa
import Derived.Orders
import Derived.Laws.Cells
import Derived.Laws.World
import Derived.Laws.AppendOwn
import Derived.Below
import Derived.ControlIn
import Derived.CallsIn
import Derived.RangeFuncIn
import Derived.OrdersIn
import Derived.RangeFuncRecord
import Derived.RangeFuncLeaves
import Derived.RangeFuncOwn
import Derived.Maps.OwnSet
set_option linter.all false
namespace Abx
open Go
theorem foldl_put (off : Nat) : ∀ (vs : List Value) (j : Nat) (cs : Array Value), off + j + vs.length <= cs.size ->
 ((vs.zipIdx j).foldl (fun (cs : Array Value) (x : Value × Nat) => cs.setIfInBounds (off + x.2) x.1) cs).toList = cs.toList.take (off + j) ++ vs ++ cs.toList.drop (off + j + vs.length)
 | [], j, cs, h => by simp
 | v :: vs, j, cs, h => by
  simp only [List.length_cons] at h
  rw [List.zipIdx_cons, List.foldl_cons, foldl_put off vs (j + 1) _ (by simp; omega)]
  have e := Go.list_seg_step cs.toList (off + j) v vs (by simp; omega)
  simp only [Array.toList_setIfInBounds, List.length_cons] at e ⊢
  have e1 : off + (j + 1) = off + j + 1 := by omega
  rw [e1]
  rw [<- e]
theorem fill_cons {place : Nat -> Option (Nat × Nat)} {cells : Array Value} {i : Nat} {v : Value} {rest : List (Nat × Value)} {off size : Nat}
 (hp : place i = some (off, size)) (hs : v.cells.size = size) (hl : off + size <= cells.size) :
 Instr.fill place cells ((i, v) :: rest) = Instr.fill place (cells.toList.take off ++ v.cells.toList ++ cells.toList.drop (off + size)).toArray rest := by
 have h1 : ¬ (v.cells.size ≠ size || decide (off + v.cells.size > cells.size)) = true := by simp [hs]; omega
 have e : v.cells.zipIdx.foldl (fun (cs : Array Value) (x : Value × Nat) => cs.setIfInBounds (off + x.2) x.1) cells =
  (cells.toList.take off ++ v.cells.toList ++ cells.toList.drop (off + size)).toArray := by
  apply Array.ext'
  rw [<- Array.foldl_toList, Array.toList_zipIdx, foldl_put off v.cells.toList 0 cells (by simp [hs]; omega)]
  simp [hs]
 simp only [Instr.fill, hp]
 rw [if_neg h1]
 rw [<- e]
section
variable {P : Program} {C : Ctx} {o : Oper} {env : List AV} {s : Sto} {k : List AV -> Sto -> Prop}
theorem mapM_some_length {α β : Type} (f : α -> Option β) : ∀ (l : List α) {r : List β}, l.mapM f = some r -> r.length = l.length
 | [], r => fun h => by simp at h; subst h; rfl
 | x :: xs, r => fun h => by
  simp only [List.mapM_cons, Option.bind_eq_bind, Option.bind_eq_some_iff] at h
  obtain ⟨y, _, ys, h2, h3⟩ := h
  cases h3
  simp [mapM_some_length f xs h2]
theorem fill_parts {β : Beta} {a : Act} {w : World} (hst : St C β env s a w) {fs : Array Field} :
 ∀ (ps : List (Nat × Operand)) (qs : List (Nat × Nat × Operand)) (cs cs' : List AV) (cells : Array Value),
  ps.mapM (partsOf P fs) = some qs -> putParts env cs qs = some cs' -> AV.oks β (C.forb β s) w cs cells.toList -> (∀ v ∈ cells.toList, one v = true) ->
  ∀ (places : Array (Nat × Nat)), (∀ (i : Nat) (f : Field) (n : Nat), fs[i]? = some f -> sizeP P f.type = some n -> places[i]? = some (f.offset, n)) ->
  ∃ out : Array Value, Instr.fill (places[·]?) cells (ps.map fun p => (p.1, a.eval p.2)) = some out /\ AV.oks β (C.forb β s) w cs' out.toList /\ ∀ v ∈ out.toList, one v = true
 | [], qs, cs, cs', cells => fun h1 h2 h3 h4 places _ => by
  simp at h1
  subst h1
  simp only [putParts, Option.some.injEq] at h2
  subst h2
  exact ⟨cells, rfl, h3, h4⟩
 | p :: ps, qs, cs, cs', cells => fun h1 h2 h3 h4 places hpl => by
  simp only [List.mapM_cons, Option.bind_eq_bind, Option.bind_eq_some_iff] at h1
  obtain ⟨q, hq, qs', h5, h6⟩ := h1
  cases h6
  unfold partsOf at hq
  cases hf : fs[p.1]? with
  | none => simp [hf] at hq
  | some f =>
   cases hn : sizeP P f.type with
   | none => simp [hf, hn] at hq
   | some n =>
    simp only [hf, hn, Option.bind_some, Option.map_some, Option.some.injEq] at hq
    subst hq
    simp only [putParts] at h2
    split at h2
    ·rename_i xs hxs
     split at h2
     ·rename_i hcond
      obtain ⟨hx1, hx2⟩ := cells_ok (hst.ev p.2) hxs
      have hl := AV.oks_length h3
      have hlx := AV.oks_length hx1
      have hsz : (a.eval p.2).cells.size = n := by rw [<- hcond.1, <- hlx]; simp
      have hfc := fill_cons (place := (places[·]?)) (rest := ps.map fun p => (p.1, a.eval p.2)) (hpl p.1 f n hf hn) hsz (cells := cells) (by simp at hl; omega)
      obtain ⟨out, h7, h8, h9⟩ := fill_parts hst ps qs' _ cs' (cells.toList.take f.offset ++ (a.eval p.2).cells.toList ++ cells.toList.drop (f.offset + n)).toArray h5 h2
       (by exact oks_append (oks_append (oks_take _ h3) hx1) (oks_drop _ h3))
       (fun v hv => by
        simp only [List.mem_append] at hv
        rcases hv with (hv | hv) | hv
        ·exact h4 v (List.mem_of_mem_take hv)
        ·exact hx2 v hv
        ·exact h4 v (List.mem_of_mem_drop hv)) places hpl
      exact ⟨out, by rw [List.map_cons, hfc]; exact h7, h8, h9⟩
     ·cases h2
    ·cases h2
theorem mapM_run {P : Program} {w : World} {f : Field -> Sem (Nat × Nat)} {g : Field -> Nat × Nat} : ∀ (l : List Field), (∀ x ∈ l, (f x).run P w = .ok (g x) w) ->
 (l.mapM f).run P w = .ok (l.map g) w
 | [], _ => by simp
 | x :: xs, h => by
  rw [List.mapM_cons]
  simp [h x (by simp), mapM_run xs fun y hy => h y (by simp [hy])]
theorem s_build {t : Nat} {ps : Array (Nat × Operand)} (hop : o.op = .build t ps) {fs : Array Field} (hu : P.underlying t = some (.struct fs)) {z : List D} (hz : zeroD P t = some z)
 (hall : ∀ f ∈ fs.toList, (sizeP P f.type).isSome = true)
 {qs : List (Nat × Nat × Operand)} (hq : ps.toList.mapM (partsOf P fs) = some qs) {cs : List AV} (hc : putParts env (z.map .d) qs = some cs)
 (hk : k (setD o.dst env (AV.mk cs)) s) : OpWp P C o env s k := by
 refine .value fun β a w hst => ?_
 obtain ⟨i, u, hi, hzu, hsz, h1, rfl⟩ := zeroD_spec hz
 have hrunz : ∀ w, (fs.mapM fun (f : Field) => do pure (f.offset, <- Go.sizeOf f.type) : Sem (Array (Nat × Nat))).run P w = .ok (fs.map fun (f : Field) => (f.offset, (sizeP P f.type).getD 0)) w := by
  intro w
  rw [Array.mapM_eq_mapM_toList]
  have := mapM_run (P := P) (w := w) (f := fun (f : Field) => do pure (f.offset, <- Go.sizeOf f.type)) (g := fun (f : Field) => (f.offset, (sizeP P f.type).getD 0)) fs.toList (fun f hf => by
   have := hall f hf
   cases hn : sizeP P f.type with
   | none => rw [hn] at this; cases this
   | some n =>
    obtain ⟨i, hi, hin⟩ := sizeP_spec hn
    simp [Go.sizeOf, typeInfo, hi, hin])
  simp only [Sem.run_map, this, Result.andThen_ok]
  congr 1
  apply Array.ext'
  simp
 obtain ⟨out, h2, h3, h4⟩ := fill_parts hst ps.toList qs _ cs u.cells hq hc (d_oks (cDs_ok _ h1)) h1 (fs.map fun (f : Field) => (f.offset, (sizeP P f.type).getD 0)) (fun i f n hf hn => by
  simp [hf, hn])
 refine ⟨.agg out, w, β, env, s, _, ?_, hst, mk_ok h3 h4, hk⟩
 have hmap : (ps.map fun p => (p.1, a.eval p.2)).toList = ps.toList.map fun p => (p.1, a.eval p.2) := by simp
 simp only [execOp, hop, Instr.build, zeroValue, typeInfo, Sem.run_bind, run_program, Result.andThen_ok, hi, hzu, Sem.run_pure, run_underlying hu]
 rw [hrunz]
 simp only [Result.andThen_ok, hmap, h2]
 simp
theorem s_buildA {t : Nat} {ps : Array (Nat × Operand)} (hop : o.op = .build t ps) {n e : Nat} (hu : P.underlying t = some (.array n e)) {z : List D} (hz : zeroD P t = some z) (hps : ps.toList = [])
 {m : Nat} (hm : sizeP P e = some m) (hk : k (setD o.dst env (AV.mk (z.map .d))) s) : OpWp P C o env s k := by
 refine .value fun β a w hst => ?_
 obtain ⟨i, u, hi, hzu, hsz, h1, rfl⟩ := zeroD_spec hz
 obtain ⟨j, hj, hjm⟩ := sizeP_spec hm
 refine ⟨.agg u.cells, w, β, env, s, _, ?_, hst, mk_ok (d_oks (cDs_ok _ h1)) h1, hk⟩
 have hps' : ps = #[] := Array.ext' hps
 subst hps'
 simp [execOp, hop, Instr.build, zeroValue, typeInfo, Sem.run_bind, run_program, Result.andThen_ok, hi, hzu, Sem.run_pure, run_underlying hu, Go.sizeOf, hj, Instr.fill]
end
mutual
theorem fin_ok' {β : Beta} {O : Own} {w : World} : ∀ (x : AV) (v : Value) (d : D), x.fin = some d -> AV.ok β O w x v -> D.ok O w d v
 | .d y, v, d => fun hd h => by simp only [AV.fin, Option.some.injEq] at hd; subst hd; simpa [AV.ok] using h
 | .own e id xs, v, d => fun hd h => by simp only [AV.fin, Option.some.injEq] at hd; subst hd; simp only [AV.ok] at h; exact h.1
 | .agg cs, v, d => fun hd h => by
  simp only [AV.fin, Option.map_eq_some_iff] at hd
  obtain ⟨ds, h1, rfl⟩ := hd
  simp only [AV.ok] at h
  obtain ⟨vs, rfl, h2, h3⟩ := h
  simp only [D.ok]
  exact ⟨vs, rfl, finAll_ok' cs vs.toList ds h1 h2 h3⟩
 | .junk, v, d => fun hd => by simp [AV.fin] at hd
 | .ptr _ _, v, d => fun hd => by simp [AV.fin] at hd
 | .msl _ _ _ _, v, d => fun hd => by simp [AV.fin] at hd
 | .pv _, v, d => fun hd => by simp [AV.fin] at hd
 | .tup _, v, d => fun hd => by simp [AV.fin] at hd
 | .fn _ _ _, v, d => fun hd => by simp [AV.fin] at hd
 | .gow _ _ _, v, d => fun hd => by simp [AV.fin] at hd
 | .gptr _ _ _, v, d => fun hd => by simp [AV.fin] at hd
 | .ful _ _, v, d => fun hd => by simp [AV.fin] at hd
 | .dp _, v, d => fun hd => by simp [AV.fin] at hd
 | .mp _, v, d => fun hd => by simp [AV.fin] at hd
theorem finAll_ok' {β : Beta} {O : Own} {w : World} : ∀ (xs : List AV) (vs : List Value) (ds : List D), AV.finAll xs = some ds -> (∀ u ∈ vs, one u = true) -> AV.oks β O w xs vs -> D.oks O w ds vs
 | [], vs, ds => fun hd _ h => by simp only [AV.finAll, Option.some.injEq] at hd; subst hd; simpa [AV.oks, D.oks] using h
 | x :: xs, vs, ds => fun hd h1 h => by
  simp only [AV.finAll, Option.bind_eq_some_iff, Option.map_eq_some_iff] at hd
  obtain ⟨y, h2, ys, h3, rfl⟩ := hd
  simp only [AV.oks] at h
  obtain ⟨v, r, rfl, h4, h5⟩ := h
  simp only [D.oks]
  exact ⟨v, r, rfl, h1 v (by simp), fin_ok' x v y h2 h4, finAll_ok' xs r ys h3 (fun u hu => h1 u (by simp [hu])) h5⟩
end
theorem fin_ok {β : Beta} {O : Own} {w : World} {x : AV} {v : Value} {d : D} (h : AV.ok β O w x v) (hd : x.fin = some d) : D.ok O w d v := fin_ok' x v d hd h
theorem dok_cells {O : Own} {w : World} {d : D} {v : Value} (h : D.ok O w d v) : D.oks O w (dcells d) v.cells.toList := by
 cases d with
 | agg cs => simp only [D.ok] at h; obtain ⟨vs, rfl, h⟩ := h; exact h
 | any =>
  have h' := h
  simp only [D.ok] at h
  have : v.cells = #[v] := by cases v <;> simp_all [Value.cells, one]
  simp only [dcells, this, D.oks]; exact ⟨v, [], rfl, h, h', rfl⟩
 | lit u =>
  have h' := h
  simp only [D.ok] at h
  obtain ⟨rfl, h1⟩ := h
  have : v.cells = #[v] := by cases v <;> simp_all [Value.cells, one]
  simp only [dcells, this, D.oks]; exact ⟨v, [], rfl, h1, h', rfl⟩
 | sl e nl xs =>
  have h' := h
  simp only [D.ok] at h
  obtain ⟨a, cap, rfl, _⟩ := h
  simp only [dcells, Value.cells, D.oks]; exact ⟨_, [], rfl, rfl, h', rfl⟩
def Elems (O : Own) (w : World) (e : Nat) : List D -> List Value -> Prop
 | [], vs => vs = []
 | d :: ds, vs => ∃ us r, vs = us ++ r /\ us.length = e /\ D.oks O w (dcells d) us /\ Elems O w e ds r
theorem Elems.length {O : Own} {w : World} {e : Nat} : ∀ {ds : List D} {vs : List Value}, Elems O w e ds vs -> vs.length = ds.length * e
 | [], vs => fun h => by simp only [Elems] at h; simp [h]
 | d :: ds, vs => fun h => by
  simp only [Elems] at h
  obtain ⟨us, r, rfl, h1, _, h3⟩ := h
  simp [h1, h3.length, Nat.add_mul]; omega
theorem Elems.row {O O' : Own} {w w' : World} {b e : Nat} (hm : ∀ b o v, w.cell? ⟨b, o, none⟩ = some v -> ¬ O b o -> w'.cell? ⟨b, o, none⟩ = some v /\ ¬ O' b o) :
 ∀ {ds : List D} {vs : List Value} {o : Nat}, Elems O w e ds vs -> Cells O' w' b o vs -> D.row O' w' b o e ds
 | [], vs, o => fun _ _ => by simp [D.row]
 | d :: ds, vs, o => fun h hc => by
  simp only [Elems] at h
  obtain ⟨us, r, rfl, h1, h2, h3⟩ := h
  rw [D.row_cons]
  refine ⟨⟨us, h1, fun j v hj => ?_, oks_cel (D.oks_mono hm _ _ h2)⟩, h3.row hm fun j v hj => ?_⟩
  ·have hlt : j < us.length := (List.getElem?_eq_some_iff.1 hj).1
   exact hc j v (by rw [List.getElem?_append_left hlt]; exact hj)
  ·have := hc (us.length + j) v (by rw [List.getElem?_append_right (by omega)]; simpa using hj)
   rw [h1] at this
   rwa [Nat.add_assoc]
theorem Elems.flat {O : Own} {w : World} {e : Nat} : ∀ {ds : List D} {vs : List Value}, Elems O w e ds vs -> (∀ x ∈ ds, (dcells x).length = e) ->
 D.oks O w (ds.flatMap dcells) vs /\ (ds.flatMap dcells).length = ds.length * e
 | [], vs, h, _ => by simp only [Elems] at h; subst h; simp [D.oks]
 | d :: ds, vs, h, he => by
  simp only [Elems] at h
  obtain ⟨us, r, rfl, h1, h2, h3⟩ := h
  obtain ⟨h4, h5⟩ := h3.flat fun x hx => he x (by simp [hx])
  rw [List.flatMap_cons]
  exact ⟨doks_append h2 h4, by rw [List.length_append, h5, he d (by simp), List.length_cons, Nat.add_mul]; omega⟩
section
variable {P : Program} {C : Ctx} {o : Oper} {env : List AV} {s : Sto} {k : List AV -> Sto -> Prop}
theorem fill_seq {O : Own} {w : World} {e : Nat} : ∀ (ds : List D) (vs : List Value) (j : Nat) (cells : Array Value), (∀ v ∈ vs, v.cells.size = e) ->
 (∀ (i : Nat) (d : D) (v : Value), ds[i]? = some d -> vs[i]? = some v -> D.ok O w d v) -> ds.length = vs.length -> cells.size = (j + vs.length) * e ->
 ∃ out : Array Value, Instr.fill (fun i => some (i * e, e)) cells ((vs.zipIdx j).map fun p => (p.2, p.1)) = some out /\
  ∃ us, Elems O w e ds us /\ out.toList = cells.toList.take (j * e) ++ us
 | [], [], j, cells, _, _, _, h4 => ⟨cells, rfl, [], rfl, by simp at h4; simp [<- h4, <- Array.length_toList, List.take_length]⟩
 | [], _ :: _, _, _, _, _, h3, _ => by simp at h3
 | _ :: _, [], _, _, _, _, h3, _ => by simp at h3
 | d :: ds, v :: vs, j, cells, h1, h2, h3, h4 => by
  have hv := h1 v (by simp)
  have hfit : j * e + e <= cells.size := by
   rw [h4, <- Nat.succ_mul]
   exact Nat.mul_le_mul_right _ (by simp)
  have hfc := fill_cons (place := fun i => some (i * e, e)) (i := j) (rest := (vs.zipIdx (j + 1)).map fun p => (p.2, p.1)) rfl hv hfit
  have hsz : (cells.toList.take (j * e) ++ v.cells.toList ++ cells.toList.drop (j * e + e)).length = (j + 1 + vs.length) * e := by
   simp [hv]
   rw [h4] at hfit ⊢
   simp only [List.length_cons] at hfit ⊢
   have : (j + 1 + vs.length) * e = (j + (vs.length + 1)) * e := by congr 1; omega
   rw [this]
   omega
  obtain ⟨out, h5, us, h6, h7⟩ := fill_seq ds vs (j + 1) (cells.toList.take (j * e) ++ v.cells.toList ++ cells.toList.drop (j * e + e)).toArray
   (fun u hu => h1 u (by simp [hu])) (fun i d u hd hu => h2 (i + 1) d u (by simpa using hd) (by simpa using hu)) (by simpa using h3) (by simpa using hsz)
  refine ⟨out, by rw [List.zipIdx_cons, List.map_cons, hfc]; exact h5, v.cells.toList ++ us, ?_, ?_⟩
  ·simp only [Elems]
   exact ⟨_, _, rfl, by simpa using hv, dok_cells (h2 0 d v rfl rfl), h6⟩
  ·rw [h7]
   have hl : (cells.toList.take (j * e) ++ v.cells.toList).length = (j + 1) * e := by
    simp [hv, Nat.add_mul]
    omega
   rw [List.take_left' hl]
   simp
theorem finAll_spec : ∀ {xs : List AV} {ds : List D}, AV.finAll xs = some ds -> ds.length = xs.length /\ ∀ (i : Nat) (x : AV) (d : D), xs[i]? = some x -> ds[i]? = some d -> x.fin = some d
 | [], ds => fun h => by simp only [AV.finAll, Option.some.injEq] at h; subst h; simp
 | x :: xs, ds => fun h => by
  simp only [AV.finAll, Option.bind_eq_some_iff, Option.map_eq_some_iff] at h
  obtain ⟨y, h1, ys, h2, rfl⟩ := h
  obtain ⟨h3, h4⟩ := finAll_spec h2
  refine ⟨by simp [h3], fun i z d hz hd => ?_⟩
  cases i with
  | zero => simp at hz hd; subst hz; subst hd; exact h1
  | succ i => exact h4 i z d (by simpa using hz) (by simpa using hd)
theorem zerosArr_one {z : Array Value} (h : ∀ v ∈ z.toList, one v = true) (n : Nat) (hz : n = 0 ∨ 0 < z.size) : ∀ v ∈ ((Array.range n).map fun i => z[i % z.size]!).toList, one v = true := by
 intro v hv
 simp at hv
 obtain ⟨i, hi, rfl⟩ := hv
 rcases hz with rfl | hz
 ·omega
 ·have hlt : i % z.size < z.size := Nat.mod_lt _ hz
  rw [getElem!_pos z _ hlt]
  exact h _ (Array.getElem_mem_toList hlt)
theorem s_bsl {d t n : Nat} {ps : Array (Nat × Operand)} (hop : o.op = .buildSlice t n ps) {e sz : Nat} (ht : P.underlying t = some (.slice e)) (hsz : sizeP P e = some sz)
 {z : List D} (hz : zeroD P e = some z) (hn : n * sz <= 2 ^ 24) (hsz0 : 0 < sz) {xs : List Operand} (hxs : fullParts n ps.toList = some xs)
 {ds : List D} (hds : AV.finAll (xs.map (ev env)) = some ds) (hel : ∀ x ∈ ds, (dcells x).length = sz)
 (hk : newK C.k d env s fun env s _ => k (setD o.dst env (.own sz d ds)) (sset s d (.tok e sz ds.length))) : OpWp P C o env s k := by
 refine .value fun β a w hst => ?_
 obtain ⟨i, u, hi, hzu, hzs, h1, _⟩ := zeroD_spec hz
 have hisz : i.size = sz := by obtain ⟨i', h1, h2⟩ := sizeP_spec hsz; rw [hi] at h1; cases h1; exact h2
 have hxs' : ps.toList.map (·.1) = List.range n /\ ps.toList.map (·.2) = xs := by
  unfold fullParts at hxs
  split at hxs
  ·cases hxs; exact ⟨by assumption, rfl⟩
  ·cases hxs
 have hlen : xs.length = n := by rw [<- hxs'.2]; simp; have := congrArg List.length hxs'.1; simpa using this
 obtain ⟨hdl, hdv⟩ := finAll_spec hds
 have hdl' : ds.length = n := by rw [hdl, List.length_map, hlen]
 have hok : ∀ (i : Nat) (d : D) (v : Value), ds[i]? = some d -> (xs.map a.eval)[i]? = some v -> D.ok (C.forb β s) w d v := by
  intro i d v hd hv
  rw [List.getElem?_map] at hv
  cases hx : xs[i]? with
  | none => rw [hx] at hv; cases hv
  | some x =>
   rw [hx] at hv
   cases hv
   exact fin_ok (hst.ev x) (hdv i (ev env x) d (by rw [List.getElem?_map, hx]; rfl) hd)
 have hcs : ∀ v ∈ xs.map a.eval, v.cells.size = sz := by
  intro v hv
  obtain ⟨i, hi⟩ := List.getElem?_of_mem hv
  have hlt : i < ds.length := by have := (List.getElem?_eq_some_iff.1 hi).1; simp at this; omega
  have h2 := D.oks_length (dok_cells (hok i _ v (List.getElem?_eq_getElem hlt) hi))
  rw [hel _ (List.getElem_mem hlt)] at h2
  simpa using h2
 have hzz : ∀ v ∈ ((Array.range (n * sz)).map fun i => u.cells[i % u.cells.size]!).toList, one v = true := zerosArr_one h1 _ (.inr (by omega))
 obtain ⟨out, h2, us, h3, h4⟩ := fill_seq (O := C.forb β s) (w := w) (e := sz) ds (xs.map a.eval) 0 ((Array.range (n * sz)).map fun i => u.cells[i % u.cells.size]!) hcs hok (by simp [hdl', hlen]) (by simp [hlen])
 simp only [Nat.zero_mul, List.take_zero, List.nil_append] at h4
 have hzip : ((xs.map a.eval).zipIdx 0).map (fun p => (p.2, p.1)) = (ps.map fun p => (p.1, a.eval p.2)).toList := by
  rw [Array.toList_map]
  apply List.ext_getElem?
  intro j
  simp only [List.getElem?_map, List.getElem?_zipIdx]
  have e1 := congrArg (·[j]?) hxs'.1
  have e2 := congrArg (·[j]?) hxs'.2
  simp only [List.getElem?_map] at e1 e2
  cases hp : ps.toList[j]? with
  | none => rw [hp] at e2; simp at e2; simpa using e2
  | some p =>
   rw [hp] at e1 e2
   simp at e1 e2
   rw [<- e2]
   have hj : j < n := by
    rcases Nat.lt_or_ge j n with h | h
    ·exact h
    ·rw [List.getElem?_eq_none (by simpa using h)] at e1; cases e1
   rw [List.getElem?_range hj] at e1
   cases e1
   simp
 rw [hzip] at h2
 obtain ⟨β1, env1, s1, f, hst1, hd1, hk1, _, hf⟩ := newK_sound hk hst
 have hno : β1 d = .no := by have := hst1.inv.obs d; rw [hd1] at this; exact this
 have hul := h3.length
 have hEone : ∀ {ds : List D} {us : List Value}, Elems (C.forb β s) w sz ds us -> ∀ v ∈ us, one v = true := by
  intro ds
  induction ds with
  | nil => intro us h v hv; simp only [Elems] at h; subst h; cases hv
  | cons x xs ih =>
   intro us h v hv
   simp only [Elems] at h
   obtain ⟨p, r, rfl, _, h6, h7⟩ := h
   rcases List.mem_append.1 hv with hv | hv
   ·obtain ⟨i, hi⟩ := List.getElem?_of_mem hv
    have hlt : i < (dcells x).length := by rw [<- D.oks_length h6]; exact (List.getElem?_eq_some_iff.1 hi).1
    exact ((D.oks_iff.1 h6).2 i _ v (List.getElem?_eq_getElem hlt) hi).1
   ·exact ih h7 v hv
 obtain ⟨β', hst', hok'⟩ := own_of_new hst1 (id := d) (t := e) (e := sz) (n := ds.length) (cap := ds.length) (c := out) (xs := ds) (by rw [hno]; trivial)
  (by rw [<- hul, <- h4]; simp) (Nat.le_refl _) (by rw [hdl']; have : n <= n * sz := Nat.le_mul_of_pos_right _ hsz0; omega)
  (by rw [h4]; exact hEone h3) rfl
  (fun O' w' hm hc => by
   rw [h4, <- hul, List.take_length] at hc
   exact h3.row (fun b o v q1 q2 => hm b o v q1 fun h => q2 (hf b o h)) hc)
 refine ⟨.slice (some ⟨w.heap.size, 0, none⟩) ds.length ds.length, _, β', env1, _, _, ?_, hst', hok', hk1⟩
 have hbig : ¬ (n * i.size > 2 ^ 24) := by rw [hisz]; omega
 rw [hdl']
 rw [hisz] at hbig
 have hrun : (Instr.buildSlice t n (ps.map fun (i, x) => (i, a.eval x))).run P w = .ok (.slice (some ⟨w.heap.size, 0, none⟩) n n) (w.alloc (.cells out e)) := by
  simp only [Instr.buildSlice, Sem.run_bind, run_underlying ht, Result.andThen_ok, Go.sizeOf, typeInfo, run_program, hi, Sem.run_pure, hisz]
  rw [if_neg hbig]
  by_cases h0 : n * sz = 0
  ·have he : ((Array.range (n * sz)).map fun i => u.cells[i % u.cells.size]!) = #[] := by rw [h0]; simp
   have he' : ((Array.range (n * sz)).map fun i => (#[] : Array Value)[i % (#[] : Array Value).size]!) = #[] := by rw [h0]; simp
   rw [he, <- he'] at h2
   rw [if_pos h0]
   simp only [Sem.run_pure, Result.andThen_ok, h2, Sem.run_bind, newRow, run_newObj, World.alloc_eq]
  ·rw [if_neg h0]
   simp only [zeroValue, typeInfo, Sem.run_bind, run_program, hi, hzu, Sem.run_pure, Result.andThen_ok, h2, newRow, run_newObj, World.alloc_eq]
 simp only [execOp, hop, Sem.run_bind, hrun, Result.andThen_ok, Sem.run_pure]
theorem s_bslg {d t n : Nat} {ps : Array (Nat × Operand)} (hop : o.op = .buildSlice t n ps) {e sz : Nat} (ht : P.underlying t = some (.slice e)) (hsz : sizeP P e = some sz)
 {z : List D} (hz : zeroD P e = some z) (hn : n * sz <= 2 ^ 24) (hsz0 : 0 < sz) {xs : List Operand} (hxs : fullParts n ps.toList = some xs)
 {ds : List D} (hds : AV.finAll (xs.map (ev env)) = some ds) (hel : ∀ x ∈ ds, (dcells x).length = sz)
 (hk : newK C.k d env s fun env s _ => k (setD o.dst env (.gow sz d ds.length)) (sset s d (.gro e sz ds.length (ds.flatMap dcells)))) : OpWp P C o env s k := by
 refine .value fun β a w hst => ?_
 obtain ⟨i, u, hi, hzu, hzs, h1, _⟩ := zeroD_spec hz
 have hisz : i.size = sz := by obtain ⟨i', h1, h2⟩ := sizeP_spec hsz; rw [hi] at h1; cases h1; exact h2
 have hxs' : ps.toList.map (·.1) = List.range n /\ ps.toList.map (·.2) = xs := by
  unfold fullParts at hxs
  split at hxs
  ·cases hxs; exact ⟨by assumption, rfl⟩
  ·cases hxs
 have hlen : xs.length = n := by rw [<- hxs'.2]; simp; have := congrArg List.length hxs'.1; simpa using this
 obtain ⟨hdl, hdv⟩ := finAll_spec hds
 have hdl' : ds.length = n := by rw [hdl, List.length_map, hlen]
 have hok : ∀ (i : Nat) (d : D) (v : Value), ds[i]? = some d -> (xs.map a.eval)[i]? = some v -> D.ok (C.forb β s) w d v := by
  intro i d v hd hv
  rw [List.getElem?_map] at hv
  cases hx : xs[i]? with
  | none => rw [hx] at hv; cases hv
  | some x =>
   rw [hx] at hv
   cases hv
   exact fin_ok (hst.ev x) (hdv i (ev env x) d (by rw [List.getElem?_map, hx]; rfl) hd)
 have hcs : ∀ v ∈ xs.map a.eval, v.cells.size = sz := by
  intro v hv
  obtain ⟨i, hi⟩ := List.getElem?_of_mem hv
  have hlt : i < ds.length := by have := (List.getElem?_eq_some_iff.1 hi).1; simp at this; omega
  have h2 := D.oks_length (dok_cells (hok i _ v (List.getElem?_eq_getElem hlt) hi))
  rw [hel _ (List.getElem_mem hlt)] at h2
  simpa using h2
 have hzz : ∀ v ∈ ((Array.range (n * sz)).map fun i => u.cells[i % u.cells.size]!).toList, one v = true := zerosArr_one h1 _ (.inr (by omega))
 obtain ⟨out, h2, us, h3, h4⟩ := fill_seq (O := C.forb β s) (w := w) (e := sz) ds (xs.map a.eval) 0 ((Array.range (n * sz)).map fun i => u.cells[i % u.cells.size]!) hcs hok (by simp [hdl', hlen]) (by simp [hlen])
 simp only [Nat.zero_mul, List.take_zero, List.nil_append] at h4
 have hzip : ((xs.map a.eval).zipIdx 0).map (fun p => (p.2, p.1)) = (ps.map fun p => (p.1, a.eval p.2)).toList := by
  rw [Array.toList_map]
  apply List.ext_getElem?
  intro j
  simp only [List.getElem?_map, List.getElem?_zipIdx]
  have e1 := congrArg (·[j]?) hxs'.1
  have e2 := congrArg (·[j]?) hxs'.2
  simp only [List.getElem?_map] at e1 e2
  cases hp : ps.toList[j]? with
  | none => rw [hp] at e2; simp at e2; simpa using e2
  | some p =>
   rw [hp] at e1 e2
   simp at e1 e2
   rw [<- e2]
   have hj : j < n := by
    rcases Nat.lt_or_ge j n with h | h
    ·exact h
    ·rw [List.getElem?_eq_none (by simpa using h)] at e1; cases e1
   rw [List.getElem?_range hj] at e1
   cases e1
   simp
 rw [hzip] at h2
 obtain ⟨β1, env1, s1, f, hst1, hd1, hk1, _, hf⟩ := newK_sound hk hst
 have hno : β1 d = .no := by have := hst1.inv.obs d; rw [hd1] at this; exact this
 have hul := h3.length
 have hEone : ∀ {ds : List D} {us : List Value}, Elems (C.forb β s) w sz ds us -> ∀ v ∈ us, one v = true := by
  intro ds
  induction ds with
  | nil => intro us h v hv; simp only [Elems] at h; subst h; cases hv
  | cons x xs ih =>
   intro us h v hv
   simp only [Elems] at h
   obtain ⟨p, r, rfl, _, h6, h7⟩ := h
   rcases List.mem_append.1 hv with hv | hv
   ·obtain ⟨i, hi⟩ := List.getElem?_of_mem hv
    have hlt : i < (dcells x).length := by rw [<- D.oks_length h6]; exact (List.getElem?_eq_some_iff.1 hi).1
    exact ((D.oks_iff.1 h6).2 i _ v (List.getElem?_eq_getElem hlt) hi).1
   ·exact ih h7 v hv
 obtain ⟨hfl, hfe⟩ := h3.flat hel
 obtain ⟨β', hst', hok'⟩ := gro_of_new hst1 (id := d) (t := e) (e := sz) (n := ds.length) (cap := ds.length) (c := out) (cs := ds.flatMap dcells) (pre := us) (rest := []) (by rw [hno]; trivial)
  (by rw [<- hul, <- h4]; simp) (Nat.le_refl _) (by rw [hdl']; have : n <= n * sz := Nat.le_mul_of_pos_right _ hsz0; omega)
  (by rw [h4]; exact hEone h3) hfe (by rw [h4]; simp) (D.oks_mono (fun _ _ _ hc hn => ⟨hc, fun h => hn (hf _ _ h)⟩) _ _ hfl)
 refine ⟨.slice (some ⟨w.heap.size, 0, none⟩) ds.length ds.length, _, β', env1, _, _, ?_, hst', hok', hk1⟩
 have hbig : ¬ (n * i.size > 2 ^ 24) := by rw [hisz]; omega
 rw [hdl']
 rw [hisz] at hbig
 have hrun : (Instr.buildSlice t n (ps.map fun (i, x) => (i, a.eval x))).run P w = .ok (.slice (some ⟨w.heap.size, 0, none⟩) n n) (w.alloc (.cells out e)) := by
  simp only [Instr.buildSlice, Sem.run_bind, run_underlying ht, Result.andThen_ok, Go.sizeOf, typeInfo, run_program, hi, Sem.run_pure, hisz]
  rw [if_neg hbig]
  by_cases h0 : n * sz = 0
  ·have he : ((Array.range (n * sz)).map fun i => u.cells[i % u.cells.size]!) = #[] := by rw [h0]; simp
   have he' : ((Array.range (n * sz)).map fun i => (#[] : Array Value)[i % (#[] : Array Value).size]!) = #[] := by rw [h0]; simp
   rw [he, <- he'] at h2
   rw [if_pos h0]
   simp only [Sem.run_pure, Result.andThen_ok, h2, Sem.run_bind, newRow, run_newObj, World.alloc_eq]
  ·rw [if_neg h0]
   simp only [zeroValue, typeInfo, Sem.run_bind, run_program, hi, hzu, Sem.run_pure, Result.andThen_ok, h2, newRow, run_newObj, World.alloc_eq]
 simp only [execOp, hop, Sem.run_bind, hrun, Result.andThen_ok, Sem.run_pure]
theorem fill_seqV {e : Nat} : ∀ (vs : List Value) (j : Nat) (cells : Array Value), (∀ v ∈ vs, v.cells.size = e) -> cells.size = (j + vs.length) * e ->
 ∃ out : Array Value, Instr.fill (fun i => some (i * e, e)) cells ((vs.zipIdx j).map fun p => (p.2, p.1)) = some out /\
  out.toList = cells.toList.take (j * e) ++ vs.flatMap fun v => v.cells.toList
 | [], j, cells, _, h4 => ⟨cells, rfl, by simp at h4; simp [<- h4, <- Array.length_toList, List.take_length]⟩
 | v :: vs, j, cells, h1, h4 => by
  have hv := h1 v (by simp)
  have hfit : j * e + e <= cells.size := by
   rw [h4, <- Nat.succ_mul]
   exact Nat.mul_le_mul_right _ (by simp)
  have hfc := fill_cons (place := fun i => some (i * e, e)) (i := j) (rest := (vs.zipIdx (j + 1)).map fun p => (p.2, p.1)) rfl hv hfit
  have hsz : (cells.toList.take (j * e) ++ v.cells.toList ++ cells.toList.drop (j * e + e)).length = (j + 1 + vs.length) * e := by
   simp [hv]
   rw [h4] at hfit ⊢
   simp only [List.length_cons] at hfit ⊢
   have : (j + 1 + vs.length) * e = (j + (vs.length + 1)) * e := by congr 1; omega
   rw [this]
   omega
  obtain ⟨out, h5, h7⟩ := fill_seqV vs (j + 1) (cells.toList.take (j * e) ++ v.cells.toList ++ cells.toList.drop (j * e + e)).toArray
   (fun u hu => h1 u (by simp [hu])) (by simpa using hsz)
  refine ⟨out, by rw [List.zipIdx_cons, List.map_cons, hfc]; exact h5, ?_⟩
  rw [h7]
  have hl : (cells.toList.take (j * e) ++ v.cells.toList).length = (j + 1) * e := by
   simp [hv, Nat.add_mul]
   omega
  rw [List.take_left' hl]
  simp
theorem flat_ok {β : Beta} {O : Own} {w : World} {e : Nat} : ∀ {xs : List AV} {vs : List Value} {cs : List AV}, AV.flat e xs = some cs -> AV.oks β O w xs vs ->
 AV.oks β O w cs (vs.flatMap fun v => v.cells.toList) /\ (∀ v ∈ vs, v.cells.size = e) /\ ∀ u ∈ vs.flatMap (fun v => v.cells.toList), one u = true
 | [], vs, cs, h, hv => by
  simp only [AV.flat, Option.some.injEq] at h
  simp only [AV.oks] at hv
  subst h; subst hv
  simp [AV.oks]
 | x :: xs, vs, cs, h, hv => by
  simp only [AV.oks] at hv
  obtain ⟨v, r, rfl, hv, hr⟩ := hv
  simp only [AV.flat] at h
  split at h
  ·rename_i c r' hc hr'
   split at h
   ·rename_i he
    cases h
    obtain ⟨h1, h2⟩ := cells_ok hv hc
    obtain ⟨h3, h4, h5⟩ := flat_ok hr' hr
    rw [List.flatMap_cons]
    refine ⟨oks_append h1 h3, fun u hu => ?_, fun u hu => ?_⟩
    ·rcases List.mem_cons.1 hu with rfl | hu
     ·rw [<- Array.length_toList, AV.oks_length h1, he]
     ·exact h4 u hu
    ·rcases List.mem_append.1 hu with hu | hu
     ·exact h2 u hu
     ·exact h5 u hu
   ·cases h
  ·cases h
theorem s_bslo {d t n : Nat} {ps : Array (Nat × Operand)} (hop : o.op = .buildSlice t n ps) {e sz : Nat} (ht : P.underlying t = some (.slice e)) (hsz : sizeP P e = some sz)
 {z : List D} (hz : zeroD P e = some z) (hn : n * sz <= 2 ^ 24) (hsz0 : 0 < sz) {xs : List Operand} (hxs : fullParts n ps.toList = some xs)
 {cs : List AV} (hds : AV.flat sz (xs.map (ev env)) = some cs)
 (hk : newK C.k d env s fun env s f => k (setD o.dst env (.msl sz d 0 xs.length)) (sset s d (.obj e (cs.map f)))) : OpWp P C o env s k := by
 refine .value fun β a w hst => ?_
 obtain ⟨i, u, hi, hzu, hzs, h1, _⟩ := zeroD_spec hz
 have hisz : i.size = sz := by obtain ⟨i', h1, h2⟩ := sizeP_spec hsz; rw [hi] at h1; cases h1; exact h2
 have hxs' : ps.toList.map (·.1) = List.range n /\ ps.toList.map (·.2) = xs := by
  unfold fullParts at hxs
  split at hxs
  ·cases hxs; exact ⟨by assumption, rfl⟩
  ·cases hxs
 have hlen : xs.length = n := by rw [<- hxs'.2]; simp; have := congrArg List.length hxs'.1; simpa using this
 have hall : ∀ ys : List Operand, AV.oks β (C.forb β s) w (ys.map (ev env)) (ys.map a.eval) := by
  intro ys
  induction ys with
  | nil => simp [AV.oks]
  | cons y ys ih => simp only [List.map_cons, AV.oks]; exact ⟨_, _, rfl, hst.ev y, ih⟩
 obtain ⟨hok, hcs, hone⟩ := flat_ok hds (hall xs)
 obtain ⟨out, h2, h4⟩ := fill_seqV (xs.map a.eval) 0 ((Array.range (n * sz)).map fun i => u.cells[i % u.cells.size]!) hcs (by simp [hlen])
 simp only [Nat.zero_mul, List.take_zero, List.nil_append] at h4
 have hzip : ((xs.map a.eval).zipIdx 0).map (fun p => (p.2, p.1)) = (ps.map fun p => (p.1, a.eval p.2)).toList := by
  rw [Array.toList_map]
  apply List.ext_getElem?
  intro j
  simp only [List.getElem?_map, List.getElem?_zipIdx]
  have e1 := congrArg (·[j]?) hxs'.1
  have e2 := congrArg (·[j]?) hxs'.2
  simp only [List.getElem?_map] at e1 e2
  cases hp : ps.toList[j]? with
  | none => rw [hp] at e2; simp at e2; simpa using e2
  | some p =>
   rw [hp] at e1 e2
   simp at e1 e2
   rw [<- e2]
   have hj : j < n := by
    rcases Nat.lt_or_ge j n with h | h
    ·exact h
    ·rw [List.getElem?_eq_none (by simpa using h)] at e1; cases e1
   rw [List.getElem?_range hj] at e1
   cases e1
   simp
 rw [hzip] at h2
 obtain ⟨β1, env1, s1, f, hst1, hd1, hk1, hf, _⟩ := newK_sound hk hst
 rw [<- h4] at hok hone
 obtain ⟨β2, hst2, m, hp⟩ := hst1.newObj (id := d) hd1 (c := out) (t := e) (cs := cs.map f) hone (oks_map hf hok)
 simp only [AV.ok] at hp
 obtain ⟨b, hb, hbv⟩ := hp
 injection hbv with hbv
 injection hbv with hbv
 injection hbv with hbv
 subst hbv
 refine ⟨.slice (some ⟨w.heap.size, 0, none⟩) n n, _, β2, env1, _, .msl sz d 0 n, ?_, hst2, ?_, by rw [<- hlen]; exact hk1⟩
 ·have hbig : ¬ (n * i.size > 2 ^ 24) := by rw [hisz]; omega
  rw [hisz] at hbig
  have hrun : (Instr.buildSlice t n (ps.map fun (i, x) => (i, a.eval x))).run P w = .ok (.slice (some ⟨w.heap.size, 0, none⟩) n n) (w.alloc (.cells out e)) := by
   simp only [Instr.buildSlice, Sem.run_bind, run_underlying ht, Result.andThen_ok, Go.sizeOf, typeInfo, run_program, hi, Sem.run_pure, hisz]
   rw [if_neg hbig]
   by_cases h0 : n * sz = 0
   ·have he : ((Array.range (n * sz)).map fun i => u.cells[i % u.cells.size]!) = #[] := by rw [h0]; simp
    have he' : ((Array.range (n * sz)).map fun i => (#[] : Array Value)[i % (#[] : Array Value).size]!) = #[] := by rw [h0]; simp
    rw [he, <- he'] at h2
    rw [if_pos h0]
    simp only [Sem.run_pure, Result.andThen_ok, h2, Sem.run_bind, newRow, run_newObj, World.alloc_eq]
   ·rw [if_neg h0]
    simp only [zeroValue, typeInfo, Sem.run_bind, run_program, hi, hzu, Sem.run_pure, Result.andThen_ok, h2, newRow, run_newObj, World.alloc_eq]
  simp only [execOp, hop, Sem.run_bind, hrun, Result.andThen_ok, Sem.run_pure]
 ·simp only [AV.ok]
  exact ⟨_, n, hb, ⟨Nat.le_refl _, by have : n <= n * sz := Nat.le_mul_of_pos_right _ hsz0; omega⟩, rfl⟩
end
def ownAt (β : Beta) (s : Sto) (id b o : Nat) : Prop :=
 match sat s id with
 | .dead => False
 | .obj _ _ => β id = .blk b
 | .tok _ e n => ∃ cap, β id = .tok (.slice (some ⟨b, 0, none⟩) n cap) n /\ n * e <= o
 | .gro _ _ n _ => ∃ cap, β id = .tok (.slice (some ⟨b, 0, none⟩) n cap) n
 | .nst _ e n _ => ∃ cap bs, β id = .nst (.slice (some ⟨b, 0, none⟩) n cap) n bs /\ n * e <= o
 | .prv _ n _ => ∃ v bs, β id = .nst v n bs /\ ((∃ cap, v = .slice (some ⟨b, 0, none⟩) n cap /\ 0 < cap) ∨ b ∈ bs)
 | .mp _ _ _ => False
theorem own_iff {β : Beta} {s : Sto} {b o : Nat} : own β s b o ↔ ∃ id, ownAt β s id b o := Iff.rfl
theorem ownAt.block {β : Beta} {s : Sto} {id b o : Nat} (h : ownAt β s id b o) : blockOf β s id b := by
 unfold ownAt at h
 unfold blockOf
 cases hs : sat s id with
 | dead => rw [hs] at h; exact h
 | obj t cs => rw [hs] at h; exact h
 | tok t e n => rw [hs] at h; obtain ⟨cap, h1, _⟩ := h; exact ⟨cap, h1⟩
 | gro t e n cs => rw [hs] at h; exact h
 | nst t e n cs => rw [hs] at h; obtain ⟨cap, bs, h1, _⟩ := h; exact ⟨_, bs, h1, .inl ⟨cap, rfl⟩⟩
 | prv e n cs => rw [hs] at h; exact h
 | mp P k es => rw [hs] at h; exact h.elim
theorem NX_of_ok {β : Beta} {O : Own} {w : World} {x : AV} {v : Value} (hx : isDp x = false) (h : AV.ok β O w x v) : NX β O w x v [] := by
 cases x with
 | dp d => cases hx
 | _ => exact ⟨h, rfl⟩
theorem NXs_of_oks {β : Beta} {O : Own} {w : World} : ∀ {cs : List AV} {vs rest : List Value}, noDp cs = true -> AV.oks β O w cs vs -> NXs β O w cs (vs ++ rest) []
 | [], _, _, _, _ => by simp [NXs]
 | x :: xs, vs, rest, hd, h => by
  simp only [noDp, List.all_cons, Bool.and_eq_true, Bool.not_eq_true'] at hd
  simp only [AV.oks] at h
  obtain ⟨v, r, rfl, h2, h3⟩ := h
  simp only [NXs]
  exact ⟨v, r ++ rest, [], [], by simp, rfl, NX_of_ok hd.1 h2, NXs_of_oks (by simpa [noDp] using hd.2) h3⟩
theorem NXs_append {β : Beta} {O : Own} {w : World} : ∀ {cs ds : List AV} {us vs : List Value} {b1 b2 : List Nat}, us.length = cs.length -> NXs β O w cs us b1 -> NXs β O w ds vs b2 -> NXs β O w (cs ++ ds) (us ++ vs) (b1 ++ b2)
 | [], ds, us, vs, b1, b2, hl, h1, h2 => by
  simp only [NXs] at h1
  subst h1
  have : us = [] := List.length_eq_zero_iff.1 hl
  subst this
  simpa using h2
 | x :: xs, ds, us, vs, b1, b2, hl, h1, h2 => by
  simp only [NXs] at h1
  obtain ⟨v, r, c1, c2, rfl, rfl, h3, h4⟩ := h1
  simp only [List.cons_append, NXs]
  exact ⟨v, r ++ vs, c1, c2 ++ b2, rfl, by simp, h3, NXs_append (by simpa using hl) h4 h2⟩
theorem NXs_take {β : Beta} {O : Own} {w : World} : ∀ {cs : List AV} {us vs : List Value} {bs : List Nat}, NXs β O w cs us bs -> us.take cs.length = vs.take cs.length -> NXs β O w cs vs bs
 | [], _, _, _, h, _ => by simpa [NXs] using h
 | x :: xs, us, vs, bs, h, he => by
  simp only [NXs] at h ⊢
  obtain ⟨v, r, c1, c2, rfl, rfl, h3, h4⟩ := h
  cases vs with
  | nil => simp at he
  | cons y ys =>
   simp only [List.length_cons, List.take_succ_cons, List.cons.injEq] at he
   obtain ⟨rfl, he⟩ := he
   exact ⟨v, ys, c1, c2, rfl, rfl, h3, NXs_take h4 he⟩
theorem NXs_length {β : Beta} {O : Own} {w : World} : ∀ {cs : List AV} {us : List Value} {bs : List Nat}, NXs β O w cs us bs -> cs.length <= us.length
 | [], _, _, _ => by simp
 | x :: xs, us, bs, h => by
  simp only [NXs] at h
  obtain ⟨v, r, c1, c2, rfl, rfl, _, h4⟩ := h
  have := NXs_length h4
  simp; omega
theorem NXs_junk {β : Beta} {O : Own} {w : World} : ∀ {n : Nat} {us : List Value}, n <= us.length -> NXs β O w (List.replicate n .junk) us []
 | 0, _, _ => by simp [NXs]
 | n + 1, [], h => by simp at h
 | n + 1, u :: us, h => by
  simp only [List.replicate_succ, NXs]
  exact ⟨u, us, [], [], rfl, rfl, ⟨by simp [AV.ok], rfl⟩, NXs_junk (by simpa using h)⟩
theorem NXs_split {β : Beta} {O : Own} {w : World} : ∀ {cs ds : List AV} {us : List Value} {bs : List Nat}, NXs β O w (cs ++ ds) us bs -> cs.length <= us.length /\ ∃ b1 b2, bs = b1 ++ b2 /\ NXs β O w cs us b1 /\ NXs β O w ds (us.drop cs.length) b2
 | [], ds, us, bs, h => ⟨by simp, [], bs, rfl, by simp [NXs], by simpa using h⟩
 | x :: xs, ds, us, bs, h => by
  simp only [List.cons_append, NXs] at h
  obtain ⟨v, r, c1, c2, rfl, rfl, h3, h4⟩ := h
  obtain ⟨h5, b1, b2, rfl, h6, h7⟩ := NXs_split h4
  exact ⟨by simpa using h5, c1 ++ b1, b2, by simp, by simp only [NXs]; exact ⟨v, r, c1, b1, rfl, rfl, h3, h6⟩, by simpa using h7⟩
theorem NXs_junk_bs {β : Beta} {O : Own} {w : World} : ∀ {n : Nat} {us : List Value} {bs : List Nat}, NXs β O w (List.replicate n .junk) us bs -> bs = []
 | 0, _, _, h => by simpa [NXs] using h
 | n + 1, us, bs, h => by
  simp only [List.replicate_succ, NXs] at h
  obtain ⟨v, r, c1, c2, rfl, rfl, h3, h4⟩ := h
  rw [NXs_junk_bs h4]
  simpa [NX] using h3.2
theorem St.freshN {C : Ctx} {β : Beta} {env : List AV} {s : Sto} {a : Act} {w : World} (h : St C β env s a w) {id : Nat}
 {ob : Ob} {p : Place} {c : Array Value} {t : Nat} (hpl : PlaceLe (β id) p)
 (hown : ∀ b o, own (bset β id p) [(id, ob)] b o -> b = w.heap.size)
 (hbl : ∀ b, blockOf (bset β id p) [(id, ob)] id b -> b = w.heap.size ∨ blockOf β s id b)
 (hob : ∀ β' F, (∀ x v, AV.ok β (C.forb β s) w x v -> AV.ok β' F (w.alloc (.cells c t)) x v) -> β' id = p -> ObOk β' F (w.alloc (.cells c t)) id ob) :
 St C (bset β id p) env (sset s id ob) a (w.alloc (.cells c t)) /\ Moves β s w (bset β id p) (sset s id ob) (w.alloc (.cells c t)) := by
 have m : Moves β s w (bset β id p) (sset s id ob) (w.alloc (.cells c t)) := by
  refine ⟨by simp, rfl, fun b o v hc _ => ?_, fun b hb _ => heap_alloc_old hb, fun b o ho => ?_, fun i b hb => ?_, fun i => ?_⟩
  ·rw [<- hc]; exact World.cell?_of_block (heap_alloc_old (cell_lt hc))
  ·rcases own_new ho with ho | ho
   ·exact .inl ho
   ·exact .inr (Nat.le_of_eq (hown b o ho).symm)
  ·rcases blockOf_new hb with ⟨_, hb⟩ | ⟨_, hb⟩
   ·exact .inl ⟨i, hb⟩
   ·rcases hbl b hb with hb | hb
    ·exact .inr (Nat.le_of_eq hb.symm)
    ·exact .inl ⟨id, hb⟩
  ·by_cases hi : i = id
   ·subst hi; simpa [bset] using hpl
   ·simp only [bset, hi, if_false]; exact .refl _
 refine ⟨h.move m (fun i => ?_) (fun i j b hi hj => ?_), m⟩
 ·rw [sat_sset]
  by_cases hi : i = id
  ·subst hi
   simp only [if_true]
   exact hob _ _ (fun x v hx => m.ok hx) (by simp [bset])
  ·simp only [hi, if_false]
   exact (h.inv.obs i).moves m (by simp [bset, hi]) (fun b hb => heap_alloc_old (h.inv.blk_lt hb)) rfl
 ·rcases blockOf_new hi with ⟨hi1, hi2⟩ | ⟨rfl, hi2⟩ <;> rcases blockOf_new hj with ⟨hj1, hj2⟩ | ⟨rfl, hj2⟩
  ·exact h.inv.inj i j b hi2 hj2
  ·rcases hbl b hj2 with hb | hb
   ·have := h.inv.blk_lt hi2; omega
   ·exact h.inv.inj _ _ b hi2 hb
  ·rcases hbl b hi2 with hb | hb
   ·have := h.inv.blk_lt hj2; omega
   ·exact h.inv.inj _ _ b hb hj2
  ·rfl
theorem nst_of_new {C : Ctx} {β : Beta} {env : List AV} {s : Sto} {a : Act} {w : World} (h : St C β env s a w) {id t e n cap : Nat} {c : Array Value} {xs : List D} {cs : List AV} {bs : List Nat}
 (hpl : PlaceLe (β id) (.nst (.slice (some ⟨w.heap.size, 0, none⟩) n cap) n bs)) (hbs : ∀ b ∈ bs, blockOf β s id b) (hnd : bs.Nodup)
 (hsz : c.size = cap * e) (hn : n <= cap) (hcap : cap < 2 ^ 63) (h1 : ∀ v ∈ c.toList, one v = true) (hx : xs.length = n)
 (hrow : ∀ (O' : Own) (w' : World), (∀ b o v, w.cell? ⟨b, o, none⟩ = some v -> ¬ C.forb β s b o -> w'.cell? ⟨b, o, none⟩ = some v /\ ¬ O' b o) ->
  Cells O' w' w.heap.size 0 (c.toList.take (n * e)) -> D.row O' w' w.heap.size 0 e xs)
 (hcs : cs.length = n * e)
 (hnx : ∀ β' F w', (∀ x v, AV.ok β (C.forb β s) w x v -> AV.ok β' F w' x v) -> (∀ b ∈ bs, w'.heap[b]? = w.heap[b]?) -> NXs β' F w' cs c.toList bs) :
 ∃ β', St C β' env (sset s id (.nst t e n cs)) a (w.alloc (.cells c t)) /\
  AV.ok β' (C.forb β' (sset s id (.nst t e n cs))) (w.alloc (.cells c t)) (.own e id xs) (.slice (some ⟨w.heap.size, 0, none⟩) n cap) /\
  β' = bset β id (.nst (.slice (some ⟨w.heap.size, 0, none⟩) n cap) n bs) := by
 have hlt : ∀ b ∈ bs, b < w.heap.size := fun b hb => h.inv.blk_lt (hbs b hb)
 obtain ⟨h2, m⟩ := h.freshN (id := id) (ob := .nst t e n cs) (p := .nst (.slice (some ⟨w.heap.size, 0, none⟩) n cap) n bs) (c := c) (t := t) hpl
  (fun b o ho => by
   obtain ⟨i, ho⟩ := ho
   by_cases hi : i = id
   ·subst hi
    simp only [sat, if_true, bset] at ho
    obtain ⟨cap', bs', ho, _⟩ := ho
    simp at ho
    exact ho.1.1.symm
   ·simp [sat, hi] at ho)
  (fun b hb => by
   simp only [blockOf, sat, if_true, bset] at hb
   obtain ⟨v', bs', hb, hb2⟩ := hb
   simp at hb
   obtain ⟨rfl, rfl⟩ := hb
   rcases hb2 with ⟨cap', hb2⟩ | hb2
   ·simp at hb2
    exact .inl hb2.1.symm
   ·exact .inr (hbs b hb2))
  (fun β' F hok hp => ⟨_, bs, hp, fun b hb => by
   obtain ⟨o, ho⟩ : ∃ o, w.heap[b]? = some o := ⟨_, Array.getElem?_eq_getElem (hlt b hb)⟩
   have := h.inv.obs id
   have hbo := hbs b hb
   unfold blockOf at hbo
   rw [heap_alloc_old (hlt b hb)]
   cases hs : sat s id with
   | dead => rw [hs] at hbo; exact hbo.elim
   | obj t' cs' => rw [hs] at hbo this; obtain ⟨b', vs, k1, k2, _⟩ := this; rw [hbo] at k1; cases k1; exact ⟨vs, t', k2⟩
   | mp P k es => rw [hs] at this; obtain ⟨b', k1, _⟩ := this; rw [k1] at hpl; cases hpl
   | tok t' e' n' =>
    rw [hs] at hbo this
    obtain ⟨cap', hbo⟩ := hbo
    obtain ⟨u, k1, k2⟩ := this
    rw [hbo] at k1; cases k1
    rcases k2 with ⟨k2, _⟩ | ⟨b', cap2, vs, k2, k3, _⟩
    ·cases k2
    ·cases k2; exact ⟨vs, t', k3⟩
   | gro t' e' n' cs' =>
    rw [hs] at hbo this
    obtain ⟨cap', hbo⟩ := hbo
    obtain ⟨u, k1, _, k2⟩ := this
    rw [hbo] at k1; cases k1
    rcases k2 with ⟨k2, _⟩ | ⟨b', cap2, vs, k2, k3, _⟩
    ·cases k2
    ·cases k2; exact ⟨vs, t', k3⟩
   | nst t' e' n' cs' =>
    rw [hs] at hbo this
    obtain ⟨v, bs', hbo, hb2⟩ := hbo
    obtain ⟨u, bs2, k1, k0, _, k2⟩ := this
    rw [hbo] at k1; cases k1
    rcases hb2 with ⟨cap', rfl⟩ | hb2
    ·rcases k2 with ⟨k2, _⟩ | ⟨b', cap2, vs, k2, k3, _⟩
     ·cases k2
     ·cases k2; exact ⟨vs, t', k3⟩
    ·exact k0 b hb2
   | prv e' n' cs' =>
    rw [hs] at hbo this
    obtain ⟨v, bs', hbo, hb2⟩ := hbo
    obtain ⟨u, bs2, k1, k0, _, k2⟩ := this
    rw [hbo] at k1; cases k1
    rcases hb2 with ⟨cap', rfl, hc0⟩ | hb2
    ·rcases k2 with ⟨⟨_, k2⟩, _⟩ | ⟨b', cap2, vs, t2, k2, k3, _⟩
     ·simp only [Value.slice.injEq] at k2; omega
     ·cases k2; exact ⟨vs, t2, k3⟩
    ·exact k0 b hb2,
   hcs, .inr ⟨w.heap.size, cap, c, rfl, heap_alloc_new, hsz, hn, hcap, h1, List.nodup_cons.2 ⟨fun hb => Nat.lt_irrefl _ (hlt _ hb), hnd⟩,
    hnx β' F _ hok fun b hb => heap_alloc_old (hlt b hb)⟩⟩)
 refine ⟨_, h2, ?_, rfl⟩
 simp only [AV.ok, D.ok]
 refine ⟨⟨_, cap, by rw [hx], ⟨by omega, hcap⟩, trivial, ?_⟩, _, n, by simp [bset, Place.at], by omega, fun _ => rfl⟩
 right
 refine ⟨w.heap.size, 0, rfl, hrow _ _ m.stays ?_⟩
 refine cells_of_heap heap_alloc_new (fun j v hj => ?_) (fun j hj hf => ?_) (fun v hv => h1 v (List.mem_of_mem_take hv))
 ·rw [List.getElem?_take] at hj
  split at hj
  ·simpa using hj
  ·cases hj
 ·rcases hf with hf | hf
  ·have := (h.inv.low _ _ hf).1
   have := h.inv.size
   omega
  ·rcases own_new hf with hf | hf
   ·have := h.inv.own_lt hf; omega
   ·obtain ⟨i, hf⟩ := hf
    by_cases hi : i = id
    ·subst hi
     simp only [sat, if_true, bset] at hf
     obtain ⟨_, _, _, hf⟩ := hf
     have : (c.toList.take (n * e)).length <= n * e := List.length_take_le _ _
     omega
    ·simp [sat, hi] at hf
section
variable {P : Program} {C : Ctx} {o : Oper} {env : List AV} {s : Sto} {k : List AV -> Sto -> Prop}
theorem Elems.ones {O : Own} {w : World} {sz : Nat} : ∀ {ds : List D} {us : List Value}, Elems O w sz ds us -> ∀ v ∈ us, one v = true
 | [], us, h, v, hv => by simp only [Elems] at h; subst h; cases hv
 | x :: xs, us, h, v, hv => by
  simp only [Elems] at h
  obtain ⟨p, r, rfl, _, h6, h7⟩ := h
  rcases List.mem_append.1 hv with hv | hv
  ·obtain ⟨i, hi⟩ := List.getElem?_of_mem hv
   have hlt : i < (dcells x).length := by rw [<- D.oks_length h6]; exact (List.getElem?_eq_some_iff.1 hi).1
   exact ((D.oks_iff.1 h6).2 i _ v (List.getElem?_eq_getElem hlt) hi).1
  ·exact Elems.ones h7 v hv
theorem isDp_map {f : AV -> AV} (hf : ∀ x, isDp x = false -> isDp (f x) = false) : ∀ {cs : List AV}, noDp cs = true -> noDp (cs.map f) = true
 | [], _ => rfl
 | x :: xs, h => by
  simp only [noDp, List.map_cons, List.all_cons, Bool.and_eq_true, Bool.not_eq_true'] at h ⊢
  exact ⟨hf x h.1, by simpa [noDp] using isDp_map hf (cs := xs) (by simpa [noDp] using h.2)⟩
theorem isDp_ren {ρ : Nat -> Option Nat} (x : AV) (h : isDp x = false) : isDp (x.ren ρ) = false := by
 cases x <;> simp only [AV.ren] <;> first | rfl | (split <;> rfl) | exact h
theorem s_bsln {d t n : Nat} {ps : Array (Nat × Operand)} (hop : o.op = .buildSlice t n ps) {e sz : Nat} (ht : P.underlying t = some (.slice e)) (hsz : sizeP P e = some sz)
 {z : List D} (hz : zeroD P e = some z) (hn : n * sz <= 2 ^ 24) (hsz0 : 0 < sz) {xs : List Operand} (hxs : fullParts n ps.toList = some xs)
 {ds : List D} (hds : AV.finAll (xs.map (ev env)) = some ds) (hel : ∀ x ∈ ds, (dcells x).length = sz) {cs : List AV} (hcs0 : AV.flat sz (xs.map (ev env)) = some cs) (hnd : noDp cs = true)
 (hk : C.k <= d /\ (if (sat s d).isDead then k (setD o.dst env (.own sz d ds)) (sset s d (.nst e sz ds.length cs))
  else k (setD o.dst (AV.rens (killρ d) env) (.own sz d ds)) (sset (skill d s) d (.nst e sz ds.length (cs.map (AV.ren (killρ d))))))) : OpWp P C o env s k := by
 refine .value fun β a w hst => ?_
 obtain ⟨i, u, hi, hzu, hzs, h1, _⟩ := zeroD_spec hz
 have hisz : i.size = sz := by obtain ⟨i', h1, h2⟩ := sizeP_spec hsz; rw [hi] at h1; cases h1; exact h2
 have hxs' : ps.toList.map (·.1) = List.range n /\ ps.toList.map (·.2) = xs := by
  unfold fullParts at hxs
  split at hxs
  ·cases hxs; exact ⟨by assumption, rfl⟩
  ·cases hxs
 have hlen : xs.length = n := by rw [<- hxs'.2]; simp; have := congrArg List.length hxs'.1; simpa using this
 obtain ⟨hdl, hdv⟩ := finAll_spec hds
 have hdl' : ds.length = n := by rw [hdl, List.length_map, hlen]
 have hok : ∀ (i : Nat) (d : D) (v : Value), ds[i]? = some d -> (xs.map a.eval)[i]? = some v -> D.ok (C.forb β s) w d v := by
  intro i d v hd hv
  rw [List.getElem?_map] at hv
  cases hx : xs[i]? with
  | none => rw [hx] at hv; cases hv
  | some x =>
   rw [hx] at hv
   cases hv
   exact fin_ok (hst.ev x) (hdv i (ev env x) d (by rw [List.getElem?_map, hx]; rfl) hd)
 have hall : ∀ ys : List Operand, AV.oks β (C.forb β s) w (ys.map (ev env)) (ys.map a.eval) := by
  intro ys
  induction ys with
  | nil => simp [AV.oks]
  | cons y ys ih => simp only [List.map_cons, AV.oks]; exact ⟨_, _, rfl, hst.ev y, ih⟩
 obtain ⟨hokc, hcs, hone⟩ := flat_ok hcs0 (hall xs)
 obtain ⟨out, h2, us, h3, h4⟩ := fill_seq (O := C.forb β s) (w := w) (e := sz) ds (xs.map a.eval) 0 ((Array.range (n * sz)).map fun i => u.cells[i % u.cells.size]!) hcs hok (by simp [hdl', hlen]) (by simp [hlen])
 obtain ⟨out2, g2, g4⟩ := fill_seqV (xs.map a.eval) 0 ((Array.range (n * sz)).map fun i => u.cells[i % u.cells.size]!) hcs (by simp [hlen])
 rw [h2] at g2
 cases g2
 simp only [Nat.zero_mul, List.take_zero, List.nil_append] at h4 g4
 have hzip : ((xs.map a.eval).zipIdx 0).map (fun p => (p.2, p.1)) = (ps.map fun p => (p.1, a.eval p.2)).toList := by
  rw [Array.toList_map]
  apply List.ext_getElem?
  intro j
  simp only [List.getElem?_map, List.getElem?_zipIdx]
  have e1 := congrArg (·[j]?) hxs'.1
  have e2 := congrArg (·[j]?) hxs'.2
  simp only [List.getElem?_map] at e1 e2
  cases hp : ps.toList[j]? with
  | none => rw [hp] at e2; simp at e2; simpa using e2
  | some p =>
   rw [hp] at e1 e2
   simp at e1 e2
   rw [<- e2]
   have hj : j < n := by
    rcases Nat.lt_or_ge j n with h | h
    ·exact h
    ·rw [List.getElem?_eq_none (by simpa using h)] at e1; cases e1
   rw [List.getElem?_range hj] at e1
   cases e1
   simp
 rw [hzip] at h2
 have hul := h3.length
 rw [<- g4] at hokc
 have hcl : cs.length = ds.length * sz := by rw [<- AV.oks_length hokc, h4, hul]
 -- the id anew
 have key : ∃ β1 env1 s1 f, St C β1 env1 s1 a w /\ sat s1 d = .dead /\ k (setD o.dst env1 (.own sz d ds)) (sset s1 d (.nst e sz ds.length (cs.map f))) /\ noDp (cs.map f) = true /\
  (∀ x v, AV.ok β (C.forb β s) w x v -> AV.ok β1 (C.forb β1 s1) w (f x) v) /\ ∀ b o, C.forb β1 s1 b o -> C.forb β s b o := by
  obtain ⟨hk0, hk⟩ := hk
  split at hk
  ·rename_i hd
   exact ⟨β, env, s, fun x => x, hst, by cases hs : sat s d <;> simp_all [Ob.isDead], by simpa using hk, by simpa using hnd, fun x v hx => hx, fun _ _ h => h⟩
  ·exact ⟨_, _, _, AV.ren (killρ d), hst.kill d hk0, by rw [sat_skill]; simp, hk, isDp_map isDp_ren hnd, fun x v hx => kill_ok hx, fun _ _ h => h.imp (fun x => x) own_kill⟩
 obtain ⟨β1, env1, s1, f, hst1, hd1, hk1, hnd1, hf0, hf⟩ := key
 have hno : β1 d = .no := by have := hst1.inv.obs d; rw [hd1] at this; exact this
 have hokf := oks_map hf0 hokc
 obtain ⟨β', hst', hok', _⟩ := nst_of_new hst1 (id := d) (t := e) (e := sz) (n := ds.length) (cap := ds.length) (c := out) (xs := ds) (cs := cs.map f) (bs := []) (by rw [hno]; trivial) (by simp) (by simp)
  (by rw [<- hul, <- h4]; simp) (Nat.le_refl _) (by rw [hdl']; have : n <= n * sz := Nat.le_mul_of_pos_right _ hsz0; omega)
  (by rw [h4]; exact h3.ones) rfl
  (fun O' w' hm hc => by
   rw [h4, <- hul, List.take_length] at hc
   exact h3.row (fun b o v q1 q2 => hm b o v q1 fun h => q2 (hf b o h)) hc)
  (by simpa using hcl)
  (fun β' F w' hm _ => by
   have h5 : AV.oks β' F w' (cs.map f) out.toList := by
    rw [AV.oks_iff] at hokf ⊢
    exact ⟨hokf.1, fun i x v h1 h2 => hm x v (hokf.2 i x v h1 h2)⟩
   simpa using NXs_of_oks (rest := []) hnd1 h5)
 refine ⟨.slice (some ⟨w.heap.size, 0, none⟩) ds.length ds.length, _, β', env1, _, _, ?_, hst', hok', hk1⟩
 have hbig : ¬ (n * i.size > 2 ^ 24) := by rw [hisz]; omega
 rw [hdl']
 rw [hisz] at hbig
 have hrun : (Instr.buildSlice t n (ps.map fun (i, x) => (i, a.eval x))).run P w = .ok (.slice (some ⟨w.heap.size, 0, none⟩) n n) (w.alloc (.cells out e)) := by
  simp only [Instr.buildSlice, Sem.run_bind, run_underlying ht, Result.andThen_ok, Go.sizeOf, typeInfo, run_program, hi, Sem.run_pure, hisz]
  rw [if_neg hbig]
  by_cases h0 : n * sz = 0
  ·have he : ((Array.range (n * sz)).map fun i => u.cells[i % u.cells.size]!) = #[] := by rw [h0]; simp
   have he' : ((Array.range (n * sz)).map fun i => (#[] : Array Value)[i % (#[] : Array Value).size]!) = #[] := by rw [h0]; simp
   rw [he, <- he'] at h2
   rw [if_pos h0]
   simp only [Sem.run_pure, Result.andThen_ok, h2, Sem.run_bind, newRow, run_newObj, World.alloc_eq]
  ·rw [if_neg h0]
   simp only [zeroValue, typeInfo, Sem.run_bind, run_program, hi, hzu, Sem.run_pure, Result.andThen_ok, h2, newRow, run_newObj, World.alloc_eq]
 simp only [execOp, hop, Sem.run_bind, hrun, Result.andThen_ok, Sem.run_pure]
end
theorem St.turnN {C : Ctx} {β : Beta} {env : List AV} {s : Sto} {a : Act} {w w' : World} (h : St C β env s a w) {id b : Nat} {ob : Ob} {p : Place}
 (hbl : blockOf β s id b) (hsize : w'.heap.size = w.heap.size) (hio : wio w' = wio w) (hoth : ∀ b', b' ≠ b -> w'.heap[b']? = w.heap[b']?)
 (hkeep : ∀ o v, w.cell? ⟨b, o, none⟩ = some v -> ¬ own β s b o -> w'.cell? ⟨b, o, none⟩ = some v)
 (hown : ∀ b' o, own (bset β id p) [(id, ob)] b' o -> own β s b' o)
 (hblk : ∀ b', blockOf (bset β id p) [(id, ob)] id b' -> blockOf β s id b')
 (hpl : PlaceLe (β id) p)
 (hob : ∀ β' F, (∀ x v, AV.ok β (C.forb β s) w x v -> AV.ok β' F w' x v) -> β' id = p -> ObOk β' F w' id ob) :
 St C (bset β id p) env (sset s id ob) a w' /\ Moves β s w (bset β id p) (sset s id ob) w' := by
 have m : Moves β s w (bset β id p) (sset s id ob) w' := by
  refine ⟨by omega, hio, fun b' o v hc hn => ?_, fun b' _ hn => ?_, fun b' o ho => ?_, fun i b' hb => ?_, fun i => ?_⟩
  ·by_cases hbb : b' = b
   ·subst hbb; exact hkeep o v hc hn
   ·rw [<- hc]; exact World.cell?_of_block (hoth b' hbb)
  ·exact hoth b' fun e => hn id (e ▸ hbl)
  ·rcases own_new ho with ho | ho
   ·exact .inl ho
   ·exact .inl (hown b' o ho)
  ·rcases blockOf_new hb with ⟨_, hb⟩ | ⟨_, hb⟩
   ·exact .inl ⟨i, hb⟩
   ·exact .inl ⟨id, hblk b' hb⟩
  ·by_cases hi : i = id
   ·subst hi; simpa [bset] using hpl
   ·simp only [bset, hi, if_false]; exact .refl _
 refine ⟨h.move m (fun i => ?_) (fun i j b' hi hj => ?_), m⟩
 ·rw [sat_sset]
  by_cases hi : i = id
  ·subst hi
   simp only [if_true]
   exact hob _ _ (fun x v hx => m.ok hx) (by simp [bset])
  ·simp only [hi, if_false]
   refine (h.inv.obs i).moves m (by simp [bset, hi]) (fun b' hb => hoth b' fun e => hi ?_) rfl
   subst e
   exact h.inv.inj i id b' hb hbl
 ·rcases blockOf_new hi with ⟨hi1, hi2⟩ | ⟨rfl, hi2⟩ <;> rcases blockOf_new hj with ⟨hj1, hj2⟩ | ⟨rfl, hj2⟩
  ·exact h.inv.inj i j b' hi2 hj2
  ·exact absurd (h.inv.inj i _ b' hi2 (hblk b' hj2)) hi1
  ·exact absurd (h.inv.inj j _ b' hj2 (hblk b' hi2)) hj1
  ·rfl
theorem oks_mapW {β β' : Beta} {O O' : Own} {w w' : World} (hf : ∀ x v, AV.ok β O w x v -> AV.ok β' O' w' x v) : ∀ {xs : List AV} {vs : List Value}, AV.oks β O w xs vs -> AV.oks β' O' w' xs vs
 | [], _, h => by simpa [AV.oks] using h
 | x :: xs, vs, h => by
  simp only [AV.oks] at h ⊢
  obtain ⟨v, r, rfl, h2, h3⟩ := h
  exact ⟨v, r, rfl, hf _ _ h2, oks_mapW hf h3⟩
theorem NXs_seg {β : Beta} {O : Own} {w : World} {cs : List AV} {us : List Value} {bs : List Nat} {off n : Nat} (h : NXs β O w cs us bs) (hl : off + n <= cs.length) :
 ∃ b1 bm b2, bs = b1 ++ (bm ++ b2) /\ NXs β O w (cs.take off) us b1 /\ NXs β O w (cs.drop (off + n)) (us.drop (off + n)) b2 := by
 have e : cs = cs.take off ++ ((cs.drop off).take n ++ cs.drop (off + n)) := by
  rw [<- List.drop_drop, List.take_append_drop, List.take_append_drop]
 rw [e] at h
 obtain ⟨h1, b1, b', rfl, h2, h3⟩ := NXs_split h
 obtain ⟨h4, bm, b2, rfl, _, h6⟩ := NXs_split h3
 have l1 : (cs.take off).length = off := by simp; omega
 have l2 : ((cs.drop off).take n).length = n := by simp; omega
 rw [l1, l2, List.drop_drop] at h6
 exact ⟨b1, bm, b2, rfl, h2, h6⟩
section
variable {P : Program} {C : Ctx} {o : Oper} {env : List AV} {s : Sto} {k : List AV -> Sto -> Prop}
theorem prv_turn {β : Beta} {a : Act} {w : World} (hst : St C β env s a w) {id e m g cap n off : Nat} {cs xs : List AV} {bs : List Nat} {vs : Array Value} {t : Nat} {news : Array Value}
 (hs : sat s id = .prv e m cs) (hb : β id = .nst (.slice (some ⟨g, 0, none⟩) m cap) m bs) (hh : w.heap[g]? = some (.cells vs t (0, 0)))
 (hl1 : xs.length = n) (hl2 : off + n <= cs.length) (hnd : noDp xs = true) (hlv : off + n <= vs.size)
 (hx1 : AV.oks β (C.forb β s) w xs news.toList) (hx2 : ∀ u ∈ news.toList, one u = true) (hc0 : 0 < cap := by assumption) :
 ∃ β', St C β' env (sset s id (.prv e m (cs.take off ++ xs ++ cs.drop (off + n)))) a (w.setRow g (vs.toList.take off ++ news.toList ++ vs.toList.drop (off + n)).toArray) := by
 have ho := hst.inv.obs id
 rw [hs] at ho
 obtain ⟨u, bs', k1, k0, k3, k4⟩ := ho
 rw [hb] at k1
 cases k1
 rcases k4 with ⟨⟨_, k4⟩, _⟩ | ⟨g', cap', vs', t', k4, k5, k6, k7, k8, k9, _, k10, k11⟩
 ·simp only [Value.slice.injEq] at k4; omega
 cases k4
 rw [hh] at k5
 cases k5
 have hlx := AV.oks_length hx1
 obtain ⟨b1, bm, b2, rfl, n1, n2⟩ := NXs_seg (off := off) (n := n) k11 hl2
 have hbl : blockOf β s id g := by unfold blockOf; rw [hs]; exact ⟨_, _, hb, .inl ⟨cap, rfl, hc0⟩⟩
 have hsubm : ∀ q, q ∈ b1 ++ b2 -> q ∈ b1 ++ (bm ++ b2) := fun q hq => by
  rcases List.mem_append.1 hq with h | h
  ·simp [h]
  ·simp [h]
 have hgb : ∀ b ∈ b1 ++ b2, b ≠ g := fun b hb e => (List.nodup_cons.1 k10).1 (e ▸ hsubm b hb)
 have hh' := setRow_heap w g vs (vs.toList.take off ++ news.toList ++ vs.toList.drop (off + n)).toArray t (0, 0) hh
 have hOth : ∀ b', b' ≠ g -> (w.setRow g (vs.toList.take off ++ news.toList ++ vs.toList.drop (off + n)).toArray).heap[b']? = w.heap[b']? := fun b' hb' => setRow_other w g b' _ (fun e => hb' e)
 obtain ⟨hst', _⟩ := hst.turnN (id := id) (b := g) (ob := .prv e m (cs.take off ++ xs ++ cs.drop (off + n))) (p := .nst (.slice (some ⟨g, 0, none⟩) m cap) m (b1 ++ b2))
  (w' := w.setRow g (vs.toList.take off ++ news.toList ++ vs.toList.drop (off + n)).toArray) hbl (by simp) (by simp [wio]) hOth
  (fun q v hcell hn => absurd ⟨id, by rw [hs]; exact ⟨_, _, hb, .inl ⟨cap, rfl, hc0⟩⟩⟩ hn)
  (fun b' q hown => by
   obtain ⟨i', hown⟩ := hown
   by_cases hi' : i' = id
   ·subst hi'
    simp only [sat, if_true, bset] at hown
    obtain ⟨v', q', p1, p2⟩ := hown
    simp only [Place.nst.injEq, true_and] at p1
    obtain ⟨rfl, rfl⟩ := p1
    refine ⟨i', ?_⟩
    rw [hs]
    exact ⟨_, _, hb, p2.imp (fun x => x) (hsubm b')⟩
   ·simp [sat, hi'] at hown)
  (fun b' hb' => by
   simp only [blockOf, sat, if_true, bset] at hb'
   obtain ⟨v', q', p1, p2⟩ := hb'
   simp only [Place.nst.injEq, true_and] at p1
   obtain ⟨rfl, rfl⟩ := p1
   unfold blockOf; rw [hs]; exact ⟨_, _, hb, p2.imp (fun x => x) (hsubm b')⟩)
  (by rw [hb]; exact ⟨_, _, _, rfl, Nat.le_refl _, fun _ => rfl⟩)
  (fun β' F hok hp => ⟨_, _, hp, fun b hb => by rw [hOth b (hgb b hb)]; exact k0 b (hsubm b hb), by
   rw [<- k3]; simp only [List.length_append, List.length_take, List.length_drop]; omega,
   .inr ⟨g, cap, _, t, rfl, hh', by
    simp only [List.size_toArray, List.length_append, List.length_take, List.length_drop, Array.length_toList] at hlx ⊢
    omega, k7, k8, fun v hv => by
     simp only [List.mem_append] at hv
     rcases hv with (hv | hv) | hv
     ·exact k9 v (List.mem_of_mem_take hv)
     ·exact hx2 v hv
     ·exact k9 v (List.mem_of_mem_drop hv), hc0, by
    have h1 := List.nodup_cons.1 k10
    refine List.nodup_cons.2 ⟨fun h => h1.1 (hsubm g h), ?_⟩
    have h2 := List.nodup_append.1 h1.2
    have h3 := List.nodup_append.1 h2.2.1
    exact List.nodup_append.2 ⟨h2.1, h3.2.1, fun x hx y hy => h2.2.2 x hx y (List.mem_append_right _ hy)⟩, by
    have e1 := NXs.imp (f := fun x => x) (id_told hok) (fun b hb => hOth b (hgb b (by simp [hb]))) n1
    have e2 := NXs.imp (f := fun x => x) (id_told hok) (fun b hb => hOth b (hgb b (by simp [hb]))) n2
    rw [List.map_id'] at e1 e2
    have e3 : NXs β' F (w.setRow g (vs.toList.take off ++ news.toList ++ vs.toList.drop (off + n)).toArray) xs (news.toList ++ vs.toList.drop (off + n)) [] :=
     NXs_of_oks hnd (oks_mapW hok hx1)
    have lt : (cs.take off).length = off := by simp; omega
    have e4 := NXs_take (vs := vs.toList.take off) e1 (by rw [lt, List.take_take, Nat.min_self])
    have e5 := NXs_append (us := vs.toList.take off) (by rw [lt, List.length_take, Array.length_toList]; omega) e4 (NXs_append (us := news.toList) (b1 := []) (by rw [hlx]) (NXs_take e3 (by rw [<- hlx, List.take_left']; rw [List.take_length]; rfl)) e2)
    simpa [List.append_assoc] using e5⟩⟩)
 exact ⟨_, hst'⟩
end
section
variable {P : Program} {C : Ctx} {o : Oper} {env : List AV} {s : Sto} {k : List AV -> Sto -> Prop}
theorem s_store {t n : Nat} {p x : Operand} (hop : o.op = .store t p x) (hn : sizeP P t = some n)
 (hk : storeK n (ev env p) (ev env x) s fun s => k (setD o.dst env .junk) s) : OpWp P C o env s k := by
 refine .skip fun β a w hst => ?_
 obtain ⟨i, hi, hin⟩ : ∃ i, P.info? t = some i /\ i.size = n := by
  unfold sizeP at hn
  cases hq : P.info? t with
  | none => simp [hq] at hn
  | some i => exact ⟨i, rfl, by simpa [hq] using hn⟩
 have hp := hst.ev p
 unfold storeK at hk
 split at hk
 ·rename_i id off hpe
  rw [hpe] at hp
  simp only [AV.ok] at hp
  obtain ⟨b, hb, hv⟩ := hp
  have ho := hst.inv.obs id
  split at hk
  ·rename_i t' cs hs
   split at hk
   ·rename_i xs hxs
    obtain ⟨hl1, hl2, hk⟩ := hk
    obtain ⟨hx1, hx2⟩ := cells_ok (hst.ev x) hxs
    rw [hs] at ho
    obtain ⟨b', vs, hb', hh, h1, h2⟩ := ho
    rw [hb] at hb'
    cases hb'
    obtain ⟨pre, rest, hvs, h2⟩ := h2
    have hl := AV.oks_length h2
    have hlv2 : off + n <= vs.size := by have := congrArg List.length hvs; simp at this; omega
    have hlx := AV.oks_length hx1
    have hlv : (a.eval x).cells.size = n := by rw [<- hl1, <- hlx]; simp
    have hrun := run_storeCells_at P b off t' (a.eval x).cells.toList 0 vs w hh (by simp; omega) (fun v hv => one_oneCell (hx2 v hv))
    simp only [Nat.add_zero, Array.length_toList, hlv] at hrun
    refine ⟨_, β, env, _, ?_, hst.storeObj (cs' := cs.take off ++ xs ++ cs.drop (off + n)) (vs' := (vs.toList.take off ++ (a.eval x).cells.toList ++ vs.toList.drop (off + n)).toArray) hs hb hh ?_ ?_, hk⟩
    ·simp [execOp, hop, Instr.storeAt, hv, Instr.sureAddr, storeVar, Go.sizeOf, typeInfo, hi, hin, hlv, hrun]
    ·intro v hv'
     simp only [List.mem_append] at hv'
     rcases hv' with (hv' | hv') | hv'
     ·exact h1 v (List.mem_of_mem_take hv')
     ·exact hx2 v hv'
     ·exact h1 v (List.mem_of_mem_drop hv')
    ·refine ⟨pre.take off ++ (a.eval x).cells.toList ++ pre.drop (off + n), rest, ?_, oks_append (oks_append (oks_take off h2) hx1) (oks_drop _ h2)⟩
     simp only [hvs]
     rw [List.take_append_of_le_length (by omega), List.drop_append_of_le_length (by omega)]
     simp
   ·exact hk.elim
  ·exact hk.elim
 ·rename_i id kk off hpe
  rw [hpe] at hp
  split at hk
  ·rename_i t' e' m cs hs
   split at hk
   ·rename_i d hd
    obtain ⟨rfl, hl1, hl2, hk⟩ := hk
    have hx := dok_cells (fin_ok (hst.ev x) hd)
    simp only [AV.ok] at hp
    obtain ⟨u, m', b, off', hb, _, hv, hpt⟩ := hp
    have ho := hst.inv.obs id
    rw [hs] at ho
    obtain ⟨u', hb', hcl, hg⟩ := ho
    rw [hb'] at hb
    obtain ⟨rfl, rfl⟩ := hb
    obtain ⟨cap, hu, had⟩ := hpt rfl
    subst had
    rcases hg with ⟨hg, _⟩ | ⟨b', cap', vs, hg, hh, h3, h4, h5, h1, pre, rest, hvs, h2⟩
    ·rw [hg] at hu; cases hu
    ·rw [hu] at hg
     cases hg
     have hl := D.oks_length h2
     have hlx := D.oks_length hx
     have hlv : (a.eval x).cells.size = n := by rw [<- hl1, <- hlx]; simp
     have hx2 : ∀ v ∈ (a.eval x).cells.toList, one v = true := fun v hv => by
      obtain ⟨q, hq⟩ := List.getElem?_of_mem hv
      have hlt : q < (dcells d).length := by rw [<- hlx]; exact (List.getElem?_eq_some_iff.1 hq).1
      exact ((D.oks_iff.1 hx).2 q _ v (List.getElem?_eq_getElem hlt) hq).1
     have hlv2 : off' + n <= vs.size := by have := congrArg List.length hvs; simp at this; omega
     have hrun := run_storeCells_at P b off' t' (a.eval x).cells.toList 0 vs w hh (by simp; omega) (fun v hv => one_oneCell (hx2 v hv))
     simp only [Nat.add_zero, Array.length_toList, hlv] at hrun
     obtain ⟨β', h9, _⟩ := gro_turn hst (n' := m) (cs' := cs.take off' ++ dcells d ++ cs.drop (off' + n)) (vs' := (vs.toList.take off' ++ (a.eval x).cells.toList ++ vs.toList.drop (off' + n)).toArray)
      (pre := pre.take off' ++ (a.eval x).cells.toList ++ pre.drop (off' + n)) (rest := rest) hs (by rw [hb', hu]) hh (Nat.le_refl _)
      (by simp only [List.size_toArray, List.length_append, List.length_take, List.length_drop, Array.length_toList, hlv]; omega) h4 h5
      (by
       intro v hv'
       simp only [List.mem_append] at hv'
       rcases hv' with (hv' | hv') | hv'
       ·exact h1 v (List.mem_of_mem_take hv')
       ·exact hx2 v hv'
       ·exact h1 v (List.mem_of_mem_drop hv'))
      (by simp only [List.length_append, List.length_take, List.length_drop]; omega)
      (by
       simp only [hvs]
       rw [List.take_append_of_le_length (by omega), List.drop_append_of_le_length (by omega)]
       simp)
      (doks_append (doks_append (doks_take off' h2) hx) (doks_drop _ h2))
     refine ⟨_, β', env, _, ?_, h9, hk⟩
     simp [execOp, hop, Instr.storeAt, hv, Instr.sureAddr, storeVar, Go.sizeOf, typeInfo, hi, hin, hlv, hrun]
   ·exact hk.elim
  ·rename_i e' m cs hs
   split at hk
   ·rename_i xs hxs
    obtain ⟨rfl, hl1, hn0, hl2, hnd, hk⟩ := hk
    obtain ⟨hx1, hx2⟩ := cells_ok (hst.ev x) hxs
    simp only [AV.ok] at hp
    obtain ⟨u, m', b, off', hb, _, hv, hpt⟩ := hp
    have ho := hst.inv.obs id
    rw [hs] at ho
    obtain ⟨u', bs, hb', h0, hcl, hg⟩ := ho
    rw [hb'] at hb
    obtain ⟨rfl, rfl⟩ := hb
    obtain ⟨cap, hu, had⟩ := hpt rfl
    subst had
    rcases hg with ⟨_, hg, _⟩ | ⟨b', cap', vs, t', hg, hh, h3, h4, h5, h1, hc0, hnod, h2⟩
    ·subst hg
     simp only [Nat.zero_mul] at hcl
     omega
    ·rw [hu] at hg
     simp only [Value.slice.injEq, Option.some.injEq, Addr.mk.injEq, true_and, and_true] at hg
     obtain ⟨rfl, rfl⟩ := hg
     have hlx := AV.oks_length hx1
     have hlv : (a.eval x).cells.size = n := by rw [<- hl1, <- hlx]; simp
     have hlv2 : off' + n <= vs.size := by rw [h3]; exact Nat.le_trans hl2 (by rw [hcl]; exact Nat.mul_le_mul_right _ h4)
     have hrun := run_storeCells_at P b off' t' (a.eval x).cells.toList 0 vs w hh (by simp; omega) (fun v hv => one_oneCell (hx2 v hv))
     simp only [Nat.add_zero, Array.length_toList, hlv] at hrun
     obtain ⟨β', h9⟩ := prv_turn hst hs (by rw [hb', hu]) hh hl1 hl2 hnd hlv2 hx1 hx2
     refine ⟨_, β', env, _, ?_, h9, hk⟩
     simp [execOp, hop, Instr.storeAt, hv, Instr.sureAddr, storeVar, Go.sizeOf, typeInfo, hi, hin, hlv, hrun]
   ·exact hk.elim
  ·exact hk.elim
 ·exact hk.elim
end
theorem cells_take {O : Own} {w : World} {b : Nat} {vs : Array Value} {t : Nat} {us : List Value} (hh : w.heap[b]? = some (.cells vs t (0, 0))) (hc : Cells O w b 0 us) : us = vs.toList.take us.length := by
 apply List.ext_getElem?
 intro j
 rw [List.getElem?_take]
 split
 ·rename_i hlt
  have := (hc j _ (List.getElem?_eq_getElem hlt)).1
  simp only [World.cell?, hh, Option.isSome_none, Bool.false_eq_true, if_false, Nat.zero_add] at this
  rw [List.getElem?_eq_getElem hlt]
  simpa using this.symm
 ·rename_i hlt
  exact List.getElem?_eq_none (by omega)
theorem own_two {β : Beta} {s : Sto} {i j b o : Nat} {x y : Ob} {p q : Place} (hij : i ≠ j) (h : own (bset (bset β i p) j q) (sset (sset s i x) j y) b o)
 (h1 : ownAt (fun _ => p) [(i, x)] i b o -> own β s b o) (h2 : ownAt (fun _ => q) [(j, y)] j b o -> own β s b o) : own β s b o := by
 obtain ⟨id, h⟩ := h
 rw [sat_sset, sat_sset] at h
 by_cases hj : id = j
 ·subst hj
  refine h2 ?_
  unfold ownAt
  cases y <;> simpa [sat, bset] using h
 ·by_cases hi : id = i
  ·subst hi
   refine h1 ?_
   unfold ownAt
   cases x <;> simpa [sat, bset, hj] using h
  ·refine ⟨id, ?_⟩
   simp only [hj, hi, if_false] at h
   cases hs : sat s id <;> rw [hs] at h <;> simpa [bset, hi, hj] using h
theorem blockOf_two {β : Beta} {s : Sto} {i j id b : Nat} {x y : Ob} {p q : Place} (hij : i ≠ j) (h : blockOf (bset (bset β i p) j q) (sset (sset s i x) j y) id b) :
 (id = j /\ blockOf (fun _ => q) [(j, y)] j b) ∨ (id = i /\ blockOf (fun _ => p) [(i, x)] i b) ∨ (id ≠ i /\ id ≠ j /\ blockOf β s id b) := by
 unfold blockOf at h ⊢
 rw [sat_sset, sat_sset] at h
 by_cases hj : id = j
 ·subst hj
  exact .inl ⟨rfl, by simpa [sat, bset] using h⟩
 ·by_cases hi : id = i
  ·subst hi
   exact .inr (.inl ⟨rfl, by simpa [sat, bset, hj] using h⟩)
  ·refine .inr (.inr ⟨hi, hj, ?_⟩)
   simp only [hj, hi, if_false] at h
   cases hs : sat s id <;> rw [hs] at h <;> simpa [bset, hi, hj] using h
theorem St.claim {C : Ctx} {β : Beta} {env : List AV} {s : Sto} {a : Act} {w : World} (h : St C β env s a w) {j j2 : Nat} (hj : j ≠ j2) {t e n t2 e2 m : Nat} {cs cs2 : List AV}
 {b b2 cap cap2 : Nat} {bs bs2 : List Nat} {vs vs2 : Array Value}
 (hsj : sat s j = .nst t e n (cs ++ List.replicate cs2.length .junk)) (hsj2 : sat s j2 = .nst t2 e2 m cs2)
 (hbj : β j = .nst (.slice (some ⟨b, 0, none⟩) n cap) n bs) (hbj2 : β j2 = .nst (.slice (some ⟨b2, 0, none⟩) m cap2) m bs2)
 (hh : w.heap[b]? = some (.cells vs t (0, 0))) (hh2 : w.heap[b2]? = some (.cells vs2 t2 (0, 0)))
 (hval : (vs.toList.drop cs.length).take cs2.length = vs2.toList.take cs2.length) :
 St C (bset (bset β j (.nst (.slice (some ⟨b, 0, none⟩) n cap) n (bs ++ bs2))) j2 (.nst (.slice (some ⟨b2, 0, none⟩) m cap2) m [])) env
  (sset (sset s j (.nst t e n (cs ++ cs2))) j2 (.nst t2 e2 m (List.replicate cs2.length .junk))) a w /\
 ∀ x v, AV.ok β (C.forb β s) w x v -> AV.ok (bset (bset β j (.nst (.slice (some ⟨b, 0, none⟩) n cap) n (bs ++ bs2))) j2 (.nst (.slice (some ⟨b2, 0, none⟩) m cap2) m []))
  (C.forb (bset (bset β j (.nst (.slice (some ⟨b, 0, none⟩) n cap) n (bs ++ bs2))) j2 (.nst (.slice (some ⟨b2, 0, none⟩) m cap2) m [])) (sset (sset s j (.nst t e n (cs ++ cs2))) j2 (.nst t2 e2 m (List.replicate cs2.length .junk)))) w x v := by
 have ho1 := h.inv.obs j
 have ho2 := h.inv.obs j2
 rw [hsj] at ho1
 rw [hsj2] at ho2
 obtain ⟨u, bs', k1, k0, k3, k4⟩ := ho1
 rw [hbj] at k1
 cases k1
 obtain ⟨u2, bs2', l1, l0, l3, l4⟩ := ho2
 rw [hbj2] at l1
 cases l1
 have hB1 : ∀ b', b' = b ∨ b' ∈ bs -> blockOf β s j b' := fun b' h => by
  unfold blockOf; rw [hsj]; exact ⟨_, bs, hbj, h.imp (fun h => by subst h; exact ⟨cap, rfl⟩) id⟩
 have hB2 : ∀ b', b' = b2 ∨ b' ∈ bs2 -> blockOf β s j2 b' := fun b' h => by
  unfold blockOf; rw [hsj2]; exact ⟨_, bs2, hbj2, h.imp (fun h => by subst h; exact ⟨cap2, rfl⟩) id⟩
 have hno : ∀ b', (b' = b ∨ b' ∈ bs) -> ¬ (b' = b2 ∨ b' ∈ bs2) := fun b' h1 h2 => hj (h.inv.inj j j2 b' (hB1 b' h1) (hB2 b' h2))
 rcases k4 with ⟨k4, _⟩ | ⟨b', cap', vs', k4, k5, k6, k7, k8, k9, k10, k11⟩
 ·cases k4
 cases k4
 rw [hh] at k5
 cases k5
 rcases l4 with ⟨l4, _⟩ | ⟨b', cap', vs', l4, l5, l6, l7, l8, l9, l10, l11⟩
 ·cases l4
 cases l4
 rw [hh2] at l5
 cases l5
 have hx1 : ∀ b', blockOf (fun _ => Place.nst (.slice (some ⟨b, 0, none⟩) n cap) n (bs ++ bs2)) [(j, Ob.nst t e n (cs ++ cs2))] j b' -> (b' = b ∨ b' ∈ bs) ∨ b' ∈ bs2 := fun b' h => by
  simp only [blockOf, sat, if_true] at h
  obtain ⟨v, q, h, h2⟩ := h
  simp at h
  obtain ⟨rfl, rfl⟩ := h
  rcases h2 with ⟨_, h2⟩ | h2
  ·simp at h2; exact .inl (.inl h2.1.symm)
  ·rcases List.mem_append.1 h2 with h2 | h2
   ·exact .inl (.inr h2)
   ·exact .inr h2
 have hx2 : ∀ b', blockOf (fun _ => Place.nst (.slice (some ⟨b2, 0, none⟩) m cap2) m []) [(j2, Ob.nst t2 e2 m (List.replicate cs2.length .junk))] j2 b' -> b' = b2 := fun b' h => by
  simp only [blockOf, sat, if_true] at h
  obtain ⟨v, q, h, h2⟩ := h
  simp at h
  obtain ⟨rfl, rfl⟩ := h
  rcases h2 with ⟨_, h2⟩ | h2
  ·simp at h2; exact h2.1.symm
  ·simp at h2
 have m' : Moves β s w (bset (bset β j (.nst (.slice (some ⟨b, 0, none⟩) n cap) n (bs ++ bs2))) j2 (.nst (.slice (some ⟨b2, 0, none⟩) m cap2) m []))
  (sset (sset s j (.nst t e n (cs ++ cs2))) j2 (.nst t2 e2 m (List.replicate cs2.length .junk))) w := by
  refine ⟨Nat.le_refl _, rfl, fun _ _ _ h _ => h, fun _ _ _ => rfl, fun b' o ho => .inl (own_two hj ho (fun h1 => ?_) fun h1 => ?_), fun i b' hb => .inl ?_, fun i => ?_⟩
  ·simp only [ownAt, sat, if_true] at h1
   obtain ⟨cap', q, h1, h2⟩ := h1
   simp at h1
   refine ⟨j, ?_⟩
   rw [hsj]
   obtain ⟨⟨rfl, rfl⟩, rfl⟩ := h1
   exact ⟨cap, bs, hbj, h2⟩
  ·simp only [ownAt, sat, if_true] at h1
   obtain ⟨cap', q, h1, h2⟩ := h1
   simp at h1
   refine ⟨j2, ?_⟩
   rw [hsj2]
   obtain ⟨⟨rfl, rfl⟩, _⟩ := h1
   exact ⟨cap2, bs2, hbj2, h2⟩
  ·rcases blockOf_two hj hb with ⟨_, h1⟩ | ⟨_, h1⟩ | ⟨_, _, h1⟩
   ·exact ⟨j2, hB2 b' (.inl (hx2 b' h1))⟩
   ·rcases hx1 b' h1 with h1 | h1
    ·exact ⟨j, hB1 b' h1⟩
    ·exact ⟨j2, hB2 b' (.inr h1)⟩
   ·exact ⟨i, h1⟩
  ·by_cases hi2 : i = j2
   ·subst hi2; simp only [bset, if_true]; rw [hbj2]; exact ⟨_, _, _, rfl, Nat.le_refl _, fun _ => rfl⟩
   ·by_cases hi : i = j
    ·subst hi; simp only [bset, hj, if_false, if_true]; rw [hbj]; exact ⟨_, _, _, rfl, Nat.le_refl _, fun _ => rfl⟩
    ·simp only [bset, hi, hi2, if_false]; exact .refl _
 refine ⟨h.move m' (fun i => ?_) (fun i i' b' h1 h2 => ?_), fun x v hx => m'.ok hx⟩
 ·rw [sat_sset, sat_sset]
  by_cases hi2 : i = j2
  ·subst hi2
   simp only [if_true]
   refine ⟨_, [], by simp [bset], by simp, by simpa using l3, .inr ⟨b2, cap2, vs2, rfl, hh2, l6, l7, l8, l9, by simp, NXs_junk (NXs_length l11)⟩⟩
  ·by_cases hi : i = j
   ·subst hi
    simp only [hj, if_false, if_true]
    refine ⟨_, bs ++ bs2, by simp [bset, hj], fun b' hb' => ?_, by simpa using k3, .inr ⟨b, cap, vs, rfl, hh, k6, k7, k8, k9, ?_, ?_⟩⟩
    ·rcases List.mem_append.1 hb' with hb' | hb'
     ·exact k0 b' hb'
     ·exact l0 b' hb'
    ·rw [<- List.cons_append]
     refine List.nodup_append.2 ⟨k10, (List.nodup_cons.1 l10).2, fun x hx y hy he => ?_⟩
     subst he
     exact hno x (by simpa using hx) (.inr hy)
    ·have E1 : NXs (bset (bset β i (.nst (.slice (some ⟨b, 0, none⟩) n cap) n (bs ++ bs2))) j2 (.nst (.slice (some ⟨b2, 0, none⟩) m cap2) m []))
      (C.forb (bset (bset β i (.nst (.slice (some ⟨b, 0, none⟩) n cap) n (bs ++ bs2))) j2 (.nst (.slice (some ⟨b2, 0, none⟩) m cap2) m [])) (sset (sset s i (.nst t e n (cs ++ cs2))) j2 (.nst t2 e2 m (List.replicate cs2.length .junk)))) w (cs ++ List.replicate cs2.length .junk) vs.toList bs := by
      have := NXs.imp (f := fun x => x) (id_told fun x v => m'.ok) (fun _ _ => rfl) k11
      simpa using this
     have E2 : NXs (bset (bset β i (.nst (.slice (some ⟨b, 0, none⟩) n cap) n (bs ++ bs2))) j2 (.nst (.slice (some ⟨b2, 0, none⟩) m cap2) m []))
      (C.forb (bset (bset β i (.nst (.slice (some ⟨b, 0, none⟩) n cap) n (bs ++ bs2))) j2 (.nst (.slice (some ⟨b2, 0, none⟩) m cap2) m [])) (sset (sset s i (.nst t e n (cs ++ cs2))) j2 (.nst t2 e2 m (List.replicate cs2.length .junk)))) w cs2 vs2.toList bs2 := by
      have := NXs.imp (f := fun x => x) (id_told fun x v => m'.ok) (fun _ _ => rfl) l11
      simpa using this
     have hlen := NXs_length E1
     rw [List.length_append] at hlen
     have E3 : NXs (bset (bset β i (.nst (.slice (some ⟨b, 0, none⟩) n cap) n (bs ++ bs2))) j2 (.nst (.slice (some ⟨b2, 0, none⟩) m cap2) m []))
      (C.forb (bset (bset β i (.nst (.slice (some ⟨b, 0, none⟩) n cap) n (bs ++ bs2))) j2 (.nst (.slice (some ⟨b2, 0, none⟩) m cap2) m [])) (sset (sset s i (.nst t e n (cs ++ cs2))) j2 (.nst t2 e2 m (List.replicate cs2.length .junk)))) w cs (vs.toList.take cs.length) bs := by
      obtain ⟨_, q1, q2, q0, q3, q4⟩ := NXs_split E1
      have q5 : q2 = [] := NXs_junk_bs q4
      rw [q5, List.append_nil] at q0
      rw [<- q0] at q3
      exact NXs_take q3 (by rw [List.take_take, Nat.min_self])
     have E4 := NXs_append (us := vs.toList.take cs.length) (vs := vs.toList.drop cs.length) (by rw [List.length_take]; omega) E3 (NXs_take E2 hval.symm)
     rwa [List.take_append_drop] at E4
   ·simp only [hi, hi2, if_false]
    exact (h.inv.obs i).moves m' (by simp [bset, hi, hi2]) (fun _ _ => rfl) rfl
 ·rcases blockOf_two hj h1 with ⟨a1, d1⟩ | ⟨a1, d1⟩ | ⟨g1, g2, d1⟩ <;> rcases blockOf_two hj h2 with ⟨a2, d2⟩ | ⟨a2, d2⟩ | ⟨f1, f2, d2⟩
  ·rw [a1, a2]
  ·have q1 := hx2 b' d1
   rcases hx1 _ d2 with d2 | d2
   ·exact absurd (.inl q1) (hno _ d2)
   ·exact absurd (q1 ▸ d2) (List.nodup_cons.1 l10).1
  ·exact absurd (h.inv.inj _ _ b' (hB2 b' (.inl (hx2 b' d1))) d2).symm f2
  ·have q1 := hx2 b' d2
   rcases hx1 _ d1 with d1 | d1
   ·exact absurd (.inl q1) (hno _ d1)
   ·exact absurd (q1 ▸ d1) (List.nodup_cons.1 l10).1
  ·rw [a1, a2]
  ·rcases hx1 b' d1 with d1 | d1
   ·exact absurd (h.inv.inj _ _ b' (hB1 b' d1) d2).symm f1
   ·exact absurd (h.inv.inj _ _ b' (hB2 b' (.inr d1)) d2).symm f2
  ·exact absurd (h.inv.inj _ _ b' d1 (hB2 b' (.inl (hx2 b' d2)))) g2
  ·rcases hx1 b' d2 with d2 | d2
   ·exact absurd (h.inv.inj _ _ b' d1 (hB1 b' d2)) g1
   ·exact absurd (h.inv.inj _ _ b' d1 (hB2 b' (.inr d2))) g2
  ·exact h.inv.inj i i' b' d1 d2
section
variable {P : Program} {C : Ctx} {o : Oper} {env : List AV} {s : Sto} {k : List AV -> Sto -> Prop}
theorem NXs_more {β : Beta} {O : Own} {w : World} {cs : List AV} {olds rest : List Value} {bs : List Nat} {k : Nat} (h : NXs β O w cs olds bs) (hl : olds.length = cs.length) (hk : k <= rest.length) :
 NXs β O w (cs ++ List.replicate k .junk) (olds ++ rest) bs := by
 have := NXs_append hl h (NXs_junk (n := k) (us := rest) hk)
 simpa using this
theorem nst_grow {β : Beta} {a : Act} {w : World} (hst : St C β env s a w) {t u ty e e2 sz by' : Nat} {i : TypeInfo} {z : Value}
 (ht : P.underlying t = some (.slice e)) (hu : P.underlying u = some (.slice e2)) (hi : P.info? e = some i) (hz : i.zero = some z) (hsz : i.size = sz) (hb : i.bytes = by') (hb0 : 0 < by')
 (hz1 : z.cells.size = i.size) (hz2 : ∀ v ∈ z.cells.toList, one v = true)
 {base : Option Addr} {sLen sCap : Nat} {xs : List D} (hxl : xs.length = sLen) {olds : List Value} (hlo : olds.length = sLen * sz) (hlo1 : ∀ v ∈ olds, one v = true)
 (holds : olds = [] ∨ ∃ b' o, base = some ⟨b', o, none⟩ /\ Cells (C.forb β s) w b' o olds)
 (hrowX : ∀ (O' : Own) (w' : World) (b' o' : Nat), (∀ b o v, w.cell? ⟨b, o, none⟩ = some v -> ¬ C.forb β s b o -> w'.cell? ⟨b, o, none⟩ = some v /\ ¬ O' b o) ->
  Cells O' w' b' o' olds -> D.row O' w' b' o' sz xs)
 {ad : Option Addr} {c : Nat} {ys : List D} {news : List Value} (hln : news.length = ys.length * sz) (hln1 : ∀ v ∈ news, one v = true)
 (hnews : news = [] ∨ ∃ b o, ad = some ⟨b, o, none⟩ /\ Cells (C.forb β s) w b o news)
 (hrowY : ∀ (O' : Own) (w' : World) (b' o' : Nat), (∀ b o v, w.cell? ⟨b, o, none⟩ = some v -> ¬ C.forb β s b o -> w'.cell? ⟨b, o, none⟩ = some v /\ ¬ O' b o) ->
  Cells O' w' b' o' news -> D.row O' w' b' o' sz ys)
 (hg : sCap < sLen + ys.length) (hbd : (sLen + ys.length) * by' <= 2 ^ 47) {id : Nat} {bs : List Nat}
 (hpl : PlaceLe (β id) (.nst (.slice (some ⟨w.heap.size, 0, none⟩) (sLen + ys.length) (grownCap w (sLen + ys.length) sCap e)) (sLen + ys.length) bs))
 (hbs : ∀ b ∈ bs, blockOf β s id b) (hnd : bs.Nodup) {cs : List AV} (hcl : cs.length = sLen * sz)
 (hnx : ∀ β' F w', (∀ x v, AV.ok β (C.forb β s) w x v -> AV.ok β' F w' x v) -> (∀ b ∈ bs, w'.heap[b]? = w.heap[b]?) -> NXs β' F w' cs olds bs) :
 ∃ w' β' rest, (Builtin.append_ #[t, u] ty #[.slice base sLen sCap, .slice ad ys.length c]).run P w =
  .ok (.slice (some ⟨w.heap.size, 0, none⟩) (sLen + ys.length) (grownCap w (sLen + ys.length) sCap e)) w' /\
  St C β' env (sset s id (.nst e sz (sLen + ys.length) (cs ++ List.replicate (ys.length * sz) .junk))) a w' /\
  AV.ok β' (C.forb β' (sset s id (.nst e sz (sLen + ys.length) (cs ++ List.replicate (ys.length * sz) .junk)))) w' (.own sz id (xs ++ ys))
   (.slice (some ⟨w.heap.size, 0, none⟩) (sLen + ys.length) (grownCap w (sLen + ys.length) sCap e)) /\
  β' = bset β id (.nst (.slice (some ⟨w.heap.size, 0, none⟩) (sLen + ys.length) (grownCap w (sLen + ys.length) sCap e)) (sLen + ys.length) bs) /\
  w'.heap[w.heap.size]? = some (.cells (olds ++ news ++ rest).toArray e (0, 0)) /\ ∀ b, b < w.heap.size -> w'.heap[b]? = w.heap[b]? := by
 have hneed : sLen + ys.length <= 2 ^ 47 := Nat.le_trans (Nat.le_mul_of_pos_right _ hb0) hbd
 have hrun := run_append_grow' (P := P) (w := w) t u ty e e2 i z ht hu hi hz base sLen sCap olds (by rw [hsz]; exact hlo)
  (holds.imp (fun x => x) fun ⟨b', o', h1, h2⟩ => ⟨b', o', h1, fun j v hj => (h2 j v hj).1⟩) ad ys.length c news (by rw [hsz]; exact hln)
  (hnews.imp (fun x => x) fun ⟨b', o', h1, h2⟩ => ⟨b', o', h1, fun j v hj => (h2 j v hj).1⟩) hg (by omega) (by rw [hb]; exact growslice_fits hg (by simpa using hbd))
 have hcap1 := grownCap_ge w (sLen + ys.length) sCap e
 have hcap2 := grownCap_le_maxLen w (sLen + ys.length) sCap e (by unfold Go.maxLen; omega)
 have hcell : (olds.toArray ++ news.toArray ++ Builtin.zeroCells z.cells (grownCap w (sLen + ys.length) sCap e - (sLen + ys.length))).toList = olds ++ news ++ (Builtin.zeroCells z.cells (grownCap w (sLen + ys.length) sCap e - (sLen + ys.length))).toList := by simp
 have hlen : (olds ++ news).length = (sLen + ys.length) * sz := by rw [List.length_append, hlo, hln, Nat.add_mul]
 have hst' : St C β env s a w.drew := hst.drew
 obtain ⟨β', h1, h2, h3⟩ := nst_of_new hst' (id := id) (t := e) (e := sz) (n := sLen + ys.length) (cap := grownCap w (sLen + ys.length) sCap e)
  (c := olds.toArray ++ news.toArray ++ Builtin.zeroCells z.cells (grownCap w (sLen + ys.length) sCap e - (sLen + ys.length))) (xs := xs ++ ys) (cs := cs ++ List.replicate (ys.length * sz) .junk) (bs := bs) hpl hbs hnd
  (by
   rw [Array.size_append, Array.size_append, size_zeroCells, hz1, hsz]
   simp only [List.size_toArray, hlo, hln]
   rw [<- Nat.add_mul, <- Nat.add_mul]
   congr 1
   omega)
  hcap1 (by unfold Go.maxLen at hcap2; omega)
  (fun v hv => by
   rw [hcell] at hv
   simp only [List.mem_append] at hv
   rcases hv with (hv | hv) | hv
   ·exact hlo1 v hv
   ·exact hln1 v hv
   ·exact zeroCells_one hz2 _ v hv)
  (by simp [hxl])
  (fun O' w' hm hc => by
   rw [hcell, take_of_append _ _ _ hlen] at hc
   refine row_append (hrowX O' w' _ 0 hm fun j v hj => ?_) (hrowY O' w' _ _ hm fun j v hj => ?_)
   ·have hlt : j < olds.length := (List.getElem?_eq_some_iff.1 hj).1
    exact hc j v (by rw [List.getElem?_append_left hlt]; exact hj)
   ·have := hc (olds.length + j) v (by rw [List.getElem?_append_right (by omega)]; simpa using hj)
    rw [hlo] at this
    rw [hxl]
    simpa [Nat.add_assoc] using this)
  (by rw [List.length_append, List.length_replicate, hcl, Nat.add_mul])
  (fun β' F w' hm hbb => by
   rw [hcell, List.append_assoc]
   exact NXs_more (hnx β' F w' (fun x v hx => hm x v (AV.ok_mono (w := w) (w' := w.drew) (fun b o v hc hn => ⟨hc, hn⟩) (fun _ => .refl _) x v hx)) hbb) (by rw [hlo, hcl]) (by rw [List.length_append, hln]; omega))
 refine ⟨_, β', (Builtin.zeroCells z.cells (grownCap w (sLen + ys.length) sCap e - (sLen + ys.length))).toList, hrun, h1, h2, h3, ?_, fun b hlt => heap_alloc_old (w := w.drew) hlt⟩
 have := heap_alloc_new (w := w.drew) (o := .cells (olds.toArray ++ news.toArray ++ Builtin.zeroCells z.cells (grownCap w (sLen + ys.length) sCap e - (sLen + ys.length))) e)
 refine this.trans (congrArg some ?_)
 congr 1
 apply Array.ext'
 rw [hcell]
theorem nst_room {β : Beta} {a : Act} {w : World} (hst : St C β env s a w) {e sz j g capg : Nat} {xs ys : List D} {cs : List AV} {bs : List Nat} {vs : Array Value} {news : List Value}
 (hsj : sat s j = .nst e sz xs.length cs) (hbj : β j = .nst (.slice (some ⟨g, 0, none⟩) xs.length capg) xs.length bs) (hh : w.heap[g]? = some (.cells vs e (0, 0)))
 (hx : AV.ok β (C.forb β s) w (.own sz j xs) (.slice (some ⟨g, 0, none⟩) xs.length capg))
 (hln : news.length = ys.length * sz) (hln1 : ∀ v ∈ news, one v = true)
 (hrowY : ∀ (O' : Own) (w' : World) (b' o' : Nat), (∀ b o v, w.cell? ⟨b, o, none⟩ = some v -> ¬ C.forb β s b o -> w'.cell? ⟨b, o, none⟩ = some v /\ ¬ O' b o) ->
  Cells O' w' b' o' news -> D.row O' w' b' o' sz ys)
 (hroom : xs.length + ys.length <= capg) :
 St C (bset β j (.nst (.slice (some ⟨g, 0, none⟩) (xs.length + ys.length) capg) (xs.length + ys.length) bs)) env
  (sset s j (.nst e sz (xs.length + ys.length) (cs ++ List.replicate (ys.length * sz) .junk))) a
  (w.setRow g (vs.toList.take (xs.length * sz) ++ news ++ vs.toList.drop (xs.length * sz + news.length)).toArray) /\
 AV.ok (bset β j (.nst (.slice (some ⟨g, 0, none⟩) (xs.length + ys.length) capg) (xs.length + ys.length) bs))
  (C.forb (bset β j (.nst (.slice (some ⟨g, 0, none⟩) (xs.length + ys.length) capg) (xs.length + ys.length) bs)) (sset s j (.nst e sz (xs.length + ys.length) (cs ++ List.replicate (ys.length * sz) .junk))))
  (w.setRow g (vs.toList.take (xs.length * sz) ++ news ++ vs.toList.drop (xs.length * sz + news.length)).toArray) (.own sz j (xs ++ ys)) (.slice (some ⟨g, 0, none⟩) (xs.length + ys.length) capg) := by
 have ho := hst.inv.obs j
 rw [hsj] at ho
 obtain ⟨u, bs', k1, k0, k3, k4⟩ := ho
 rw [hbj] at k1
 cases k1
 rcases k4 with ⟨k4, _⟩ | ⟨g', cap', vs', k4, k5, k6, k7, k8, k9, k10, k11⟩
 ·cases k4
 cases k4
 rw [hh] at k5
 cases k5
 have hbl : blockOf β s j g := by unfold blockOf; rw [hsj]; exact ⟨_, bs, hbj, .inl ⟨capg, rfl⟩⟩
 have hgb : ∀ b ∈ bs, b ≠ g := fun b hb e => (List.nodup_cons.1 k10).1 (e ▸ hb)
 have hfit : xs.length * sz + news.length <= vs.size := by
  rw [k6, hln, <- Nat.add_mul]
  exact Nat.mul_le_mul_right _ hroom
 have hh' := setRow_heap w g vs (vs.toList.take (xs.length * sz) ++ news ++ vs.toList.drop (xs.length * sz + news.length)).toArray e (0, 0) hh
 have hOth : ∀ b', b' ≠ g -> (w.setRow g (vs.toList.take (xs.length * sz) ++ news ++ vs.toList.drop (xs.length * sz + news.length)).toArray).heap[b']? = w.heap[b']? := fun b' hb' => setRow_other w g b' _ (fun e => hb' e)
 obtain ⟨hst', m⟩ := hst.turnN (id := j) (b := g) (ob := .nst e sz (xs.length + ys.length) (cs ++ List.replicate (ys.length * sz) .junk))
  (p := .nst (.slice (some ⟨g, 0, none⟩) (xs.length + ys.length) capg) (xs.length + ys.length) bs)
  (w' := w.setRow g (vs.toList.take (xs.length * sz) ++ news ++ vs.toList.drop (xs.length * sz + news.length)).toArray)
  hbl (by simp) (by simp [wio]) hOth
  (fun q v hcell hn => by
   have hq : q < xs.length * sz := by
    rcases Nat.lt_or_ge q (xs.length * sz) with hlt | hge
    ·exact hlt
    ·exact absurd ⟨j, by rw [hsj]; exact ⟨capg, bs, hbj, hge⟩⟩ hn
   simp only [World.cell?, hh, Option.isSome_none, Bool.false_eq_true, if_false] at hcell
   simp only [World.cell?, hh', Option.isSome_none, Bool.false_eq_true, if_false]
   rw [<- hcell]
   have hq2 : q < (vs.toList.take (xs.length * sz)).length := by simp; omega
   simp only [List.getElem?_toArray]
   rw [List.append_assoc, List.getElem?_append_left hq2, List.getElem?_take, if_pos hq]
   simp)
  (fun b' q hown => by
   obtain ⟨i', hown⟩ := hown
   by_cases hi' : i' = j
   ·subst hi'
    simp only [sat, if_true, bset] at hown
    obtain ⟨cap', bs', q1, q2⟩ := hown
    simp at q1
    obtain ⟨⟨rfl, _⟩, _⟩ := q1
    refine ⟨i', ?_⟩
    rw [hsj]
    exact ⟨capg, bs, hbj, Nat.le_trans (Nat.mul_le_mul_right _ (Nat.le_add_right _ _)) q2⟩
   ·simp [sat, hi'] at hown)
  (fun b' hb' => by
   simp only [blockOf, sat, if_true, bset] at hb'
   obtain ⟨v', bs', q1, q2⟩ := hb'
   simp at q1
   obtain ⟨rfl, rfl⟩ := q1
   rcases q2 with ⟨_, q2⟩ | q2
   ·simp at q2
    rw [<- q2.1]; exact hbl
   ·unfold blockOf; rw [hsj]; exact ⟨_, bs, hbj, .inr q2⟩)
  (by rw [hbj]; exact ⟨_, _, bs, rfl, by omega, fun hq => by
   have : ys.length = 0 := by omega
   rw [this]; rfl⟩)
  (fun β' F hok hp => ⟨_, bs, hp, fun b hb => by rw [hOth b (hgb b hb)]; exact k0 b hb, by rw [List.length_append, List.length_replicate, k3, Nat.add_mul],
   .inr ⟨g, capg, _, rfl, hh', by
    simp only [List.size_toArray, List.length_append, List.length_take, List.length_drop, Array.length_toList]
    omega, hroom, k8, fun v hv => by
     simp only [List.mem_append] at hv
     rcases hv with (hv | hv) | hv
     ·exact k9 v (List.mem_of_mem_take hv)
     ·exact hln1 v hv
     ·exact k9 v (List.mem_of_mem_drop hv), k10, by
    have h5 := NXs.imp (f := fun x => x) (id_told hok) (fun b hb => hOth b (hgb b hb)) k11
    rw [List.map_id'] at h5
    have h6 := NXs_take (vs := vs.toList.take (xs.length * sz)) h5 (by rw [k3, List.take_take, Nat.min_self])
    have h7 := NXs_more (rest := news ++ vs.toList.drop (xs.length * sz + news.length)) (k := ys.length * sz) h6 (by rw [List.length_take, k3]; exact Nat.min_eq_left (Nat.le_trans (Nat.le_add_right _ _) hfit)) (by rw [List.length_append, <- hln]; exact Nat.le_add_right _ _)
    rw [<- List.append_assoc] at h7
    exact h7⟩⟩)
 refine ⟨hst', ?_⟩
 simp only [AV.ok, D.ok] at hx ⊢
 obtain ⟨⟨ax, capx, hxa, hcx, _, hrx⟩, _⟩ := hx
 simp only [Value.slice.injEq, true_and] at hxa
 obtain ⟨hxa, _⟩ := hxa
 refine ⟨⟨_, capg, by rw [List.length_append], by rw [List.length_append]; exact ⟨hroom, k8⟩, trivial, .inr ⟨g, 0, rfl, ?_⟩⟩, _, xs.length + ys.length, by simp [bset, Place.at], by simp, fun _ => rfl⟩
 have hforb : ∀ q, q < (xs.length + ys.length) * sz -> ¬ C.forb (bset β j (.nst (.slice (some ⟨g, 0, none⟩) (xs.length + ys.length) capg) (xs.length + ys.length) bs)) (sset s j (.nst e sz (xs.length + ys.length) (cs ++ List.replicate (ys.length * sz) .junk))) g q := by
  intro q hq hf
  rcases hf with hf | hf
  ·have h7 := hst.inv.low _ _ hf
   by_cases hq1 : q < xs.length * sz
   ·rcases hrx with hrx | ⟨b', o', q2, q3⟩
    ·subst hrx; simp at hq1
    ·obtain ⟨us, r1, r2, _⟩ := row_copy q3
     rw [<- hxa] at q2
     cases q2
     have hlt : q < us.length := by omega
     have := (r2 q _ (List.getElem?_eq_getElem hlt)).2.1
     exact this (.inl (by simpa using hf))
   ·rcases hst.inv.ownd g q ⟨j, by rw [hsj]; exact ⟨capg, bs, hbj, by omega⟩⟩ with h8 | h8
    ·exact h7.2 h8
    ·omega
  ·rcases own_new2 hf with ⟨i', hi', hf⟩ | hf
   ·exact hi' (hst.inv.inj i' j g hf hbl)
   ·obtain ⟨i', hf⟩ := hf
    by_cases hi' : i' = j
    ·subst hi'
     simp only [sat, if_true, bset] at hf
     obtain ⟨_, _, _, hf⟩ := hf
     omega
    ·simp [sat, hi'] at hf
 have hXcells : D.row (C.forb (bset β j (.nst (.slice (some ⟨g, 0, none⟩) (xs.length + ys.length) capg) (xs.length + ys.length) bs)) (sset s j (.nst e sz (xs.length + ys.length) (cs ++ List.replicate (ys.length * sz) .junk))))
  (w.setRow g (vs.toList.take (xs.length * sz) ++ news ++ vs.toList.drop (xs.length * sz + news.length)).toArray) g 0 sz xs := by
  rcases hrx with hrx | ⟨b', o', q2, q3⟩
  ·subst hrx; simp [D.row]
  ·rw [<- hxa] at q2
   cases q2
   exact D.row_mono m.stays _ _ _ _ q3
 refine row_append hXcells (hrowY _ _ _ _ m.stays ?_)
 refine cells_of_heap hh' (fun q v hq => ?_) (fun q hq => hforb _ ?_) hln1
 ·have hq2 : q < news.length := (List.getElem?_eq_some_iff.1 hq).1
  have hlen : (vs.toList.take (xs.length * sz)).length = xs.length * sz := by simp; omega
  simp only [Nat.zero_add]
  rw [List.append_assoc, List.getElem?_append_right (by omega), hlen, Nat.add_sub_cancel_left, List.getElem?_append_left hq2]
  exact hq
 ·rw [Nat.add_mul]; omega
end
theorem sset_sset {j : Nat} {x y : Ob} : ∀ s : Sto, sset (sset s j x) j y = sset s j y
 | [] => by simp [sset]
 | (q, z) :: r => by
  simp only [sset]
  by_cases h : j = q
  ·simp [h, sset]
  ·simp only [h, if_false]
   by_cases h2 : j < q
   ·simp [h2, sset]
   ·simp only [h2, if_false, sset, h]
    rw [sset_sset r]
section
variable {P : Program} {C : Ctx} {o : Oper} {env : List AV} {s : Sto} {k : List AV -> Sto -> Prop}
theorem app_nst {β : Beta} {a : Act} {w : World} (hst : St C β env s a w) {t u ty e e2 sz by' : Nat} {i : TypeInfo} {z : Value}
 (ht : P.underlying t = some (.slice e)) (hu : P.underlying u = some (.slice e2)) (hi : P.info? e = some i) (hz : i.zero = some z) (hsz : i.size = sz) (hb : i.bytes = by') (hb0 : 0 < by') (hsz0 : 0 < sz)
 (hz1 : z.cells.size = i.size) (hz2 : ∀ v ∈ z.cells.toList, one v = true)
 {j j2 : Nat} (hj : j ≠ j2) {xs ys : List D} {cs cs2 : List AV} {t2 : Nat} (hy0 : ys ≠ [])
 (hsj : sat s j = .nst e sz xs.length cs) (hsj2 : sat s j2 = .nst t2 sz ys.length cs2)
 {xv yv : Value} (hx : AV.ok β (C.forb β s) w (.own sz j xs) xv) (hy : AV.ok β (C.forb β s) w (.own sz j2 ys) yv)
 (hbd : (xs.length + ys.length) * by' <= 2 ^ 47) :
 ∃ v w' β', (Builtin.append_ #[t, u] ty #[xv, yv]).run P w = .ok v w' /\
  St C β' env (sset (sset s j (.nst e sz (xs.length + ys.length) (cs ++ cs2))) j2 (.nst t2 sz ys.length (List.replicate cs2.length .junk))) a w' /\
  AV.ok β' (C.forb β' (sset (sset s j (.nst e sz (xs.length + ys.length) (cs ++ cs2))) j2 (.nst t2 sz ys.length (List.replicate cs2.length .junk)))) w' (.own sz j (xs ++ ys)) v := by
 have hypos : 0 < ys.length := List.length_pos_iff.2 hy0
 have ho1 := hst.inv.obs j
 have ho2 := hst.inv.obs j2
 rw [hsj] at ho1
 rw [hsj2] at ho2
 obtain ⟨u1, bs, hbj, k0, k3, k4⟩ := ho1
 obtain ⟨u2, bs2, hbj2, l0, l3, l4⟩ := ho2
 have hxv : xv = u1 := by
  simp only [AV.ok] at hx
  obtain ⟨_, p, q, h1, _, h3⟩ := hx
  rw [hbj] at h1
  obtain ⟨rfl, rfl⟩ := h1
  exact h3 rfl
 have hyv : yv = u2 := by
  simp only [AV.ok] at hy
  obtain ⟨_, p, q, h1, _, h3⟩ := hy
  rw [hbj2] at h1
  obtain ⟨rfl, rfl⟩ := h1
  exact h3 rfl
 subst hxv
 subst hyv
 rcases l4 with ⟨_, l4, _⟩ | ⟨b2, cap2, vs2, l4, l5, l6, l7, l8, l9, l10, l11⟩
 ·omega
 subst l4
 obtain ⟨ad, capy, news, hyv, hln, hln1, hnews, hrowY⟩ := slK_cells (e := sz) (β := β) (w := w) (y := .own sz j2 ys) hy rfl (.inr rfl)
 simp only [Value.slice.injEq, true_and] at hyv
 obtain ⟨rfl, rfl⟩ := hyv
 have hnpos : news ≠ [] := fun h => by
  rw [h] at hln
  have := Nat.mul_pos hypos hsz0
  simp at hln
  omega
 have hnv : news = vs2.toList.take news.length := by
  rcases hnews with h | ⟨b', o', h1, h2⟩
  ·exact absurd h hnpos
  ·cases h1
   exact cells_take l5 h2
 have hb2lt : b2 < w.heap.size := (Array.getElem?_eq_some_iff.1 l5).1
 have hc2 : cs2.length = news.length := by rw [l3, hln]
 -- the claims go over
 have fin : ∀ (β1 : Beta) (w' : World) (b n cap : Nat) (olds rest : List Value),
  St C β1 env (sset s j (.nst e sz n (cs ++ List.replicate (ys.length * sz) .junk))) a w' -> β1 = bset β j (.nst (.slice (some ⟨b, 0, none⟩) n cap) n bs) ->
  w'.heap[b]? = some (.cells (olds ++ news ++ rest).toArray e (0, 0)) -> olds.length = cs.length -> w'.heap[b2]? = w.heap[b2]? ->
  ∀ x v, AV.ok β1 (C.forb β1 (sset s j (.nst e sz n (cs ++ List.replicate (ys.length * sz) .junk)))) w' x v ->
  ∃ β', St C β' env (sset (sset s j (.nst e sz n (cs ++ cs2))) j2 (.nst t2 sz ys.length (List.replicate cs2.length .junk))) a w' /\
   AV.ok β' (C.forb β' (sset (sset s j (.nst e sz n (cs ++ cs2))) j2 (.nst t2 sz ys.length (List.replicate cs2.length .junk)))) w' x v := by
  intro β1 w' b n cap olds rest h1 h2 h3 h4 h5 x v hv
  have hrep : List.replicate (ys.length * sz) AV.junk = List.replicate cs2.length AV.junk := by rw [l3]
  rw [hrep] at h1 hv
  have hq := h1.claim (j := j) (j2 := j2) hj (t := e) (e := sz) (n := n) (t2 := t2) (e2 := sz) (m := ys.length) (cs := cs) (cs2 := cs2) (b := b) (b2 := b2) (cap := cap) (cap2 := cap2) (bs := bs) (bs2 := bs2)
   (by rw [sat_sset, if_pos rfl]) (by rw [sat_sset, if_neg (fun h => hj h.symm)]; exact hsj2) (by rw [h2]; simp [bset]) (by rw [h2]; simp only [bset, if_neg (fun h => hj h.symm : ¬ j2 = j)]; exact hbj2) h3 (by rw [h5]; exact l5)
   (by
    show ((olds ++ news ++ rest).drop cs.length).take cs2.length = _
    rw [List.append_assoc, <- h4, List.drop_left, hc2, List.take_left]
    exact hnv)
  rw [sset_sset] at hq
  exact ⟨_, hq.1, hq.2 x v hv⟩
 have hk3 : ∀ {olds : List Value}, olds.length = xs.length * sz -> olds.length = cs.length := fun h => by rw [h, k3]
 rcases k4 with ⟨k4, k5, k6⟩ | ⟨g, capg, vs, k4, k5, k6, k7, k8, k9, k10, k11⟩
 ·-- nil
  subst k4
  subst k6
  have hxs : xs = [] := List.length_eq_zero_iff.1 k5
  subst hxs
  have hcs : cs = [] := List.length_eq_zero_iff.1 (by simpa using k3)
  subst hcs
  obtain ⟨w', β1, rest, hrun, hst1, hok1, hβ1, hh1, hold⟩ := nst_grow (P := P) hst (ty := ty) ht hu hi hz hsz hb hb0 hz1 hz2 (base := none) (sLen := 0) (sCap := 0) (xs := []) rfl (olds := []) (by simp) (by simp) (.inl rfl)
   (fun _ _ _ _ _ _ => by simp [D.row]) hln hln1 hnews hrowY (c := cap2) (by omega) (by simpa using hbd) (id := j) (bs := []) (by rw [hbj]; exact ⟨_, _, [], rfl, Nat.zero_le _, fun h => by simp at h; omega⟩) (by simp) (by simp) (cs := []) (by simp)
   (fun _ _ _ _ _ => by simp [NXs])
  obtain ⟨β', h1, h2⟩ := fin β1 w' _ _ _ [] rest (by simpa using hst1) hβ1 (by simpa using hh1) rfl (hold b2 hb2lt) _ _ (by simpa using hok1)
  exact ⟨_, w', β', hrun, by simpa using h1, by simpa using h2⟩
 ·subst k4
  by_cases hroom : xs.length + ys.length <= capg
  ·have hfit : xs.length * sz + news.length <= vs.size := by
    rw [k6, hln, <- Nat.add_mul]
    exact Nat.mul_le_mul_right _ hroom
   have hrun := run_append_room' (P := P) (w := w) t u ty e e2 i ht hu hi g xs.length capg vs e k5 (some ⟨b2, 0, none⟩) ys.length cap2 news (by rw [hsz]; exact hln)
    (hnews.imp (fun x => x) fun ⟨b', o', q1, q2⟩ => ⟨b', o', q1, fun j v hj => (q2 j v hj).1⟩) hln1 hroom (by rw [hsz]; exact hfit)
   rw [hsz] at hrun
   obtain ⟨hst1, hok1⟩ := nst_room hst hsj hbj k5 hx hln hln1 hrowY hroom
   have hb2g : b2 ≠ g := fun h => hj (hst.inv.inj j j2 g (by unfold blockOf; rw [hsj]; exact ⟨_, bs, hbj, .inl ⟨capg, rfl⟩⟩) (by unfold blockOf; rw [hsj2]; exact ⟨_, bs2, hbj2, .inl ⟨cap2, by rw [h]⟩⟩))
   obtain ⟨β', h1, h2⟩ := fin _ _ g _ capg (vs.toList.take (xs.length * sz)) (vs.toList.drop (xs.length * sz + news.length)) hst1 rfl (setRow_heap w g vs _ e (0, 0) k5)
    (hk3 (by rw [List.length_take]; exact Nat.min_eq_left (Nat.le_trans (Nat.le_add_right _ _) hfit))) (setRow_other w g b2 _ fun h => hb2g h) _ _ hok1
   exact ⟨_, _, β', hrun, h1, h2⟩
  ·-- no room
   have hx' := hx
   simp only [AV.ok, D.ok] at hx'
   obtain ⟨⟨ax, capx, hxa, hcx, _, hrx⟩, _⟩ := hx'
   simp only [Value.slice.injEq, true_and] at hxa
   obtain ⟨hxa, _⟩ := hxa
   have hrowX : ∃ olds : List Value, olds.length = xs.length * sz /\ (∀ v ∈ olds, one v = true) /\ (olds = [] ∨ ∃ b' o, (some ⟨g, 0, none⟩ : Option Addr) = some ⟨b', o, none⟩ /\ Cells (C.forb β s) w b' o olds) /\
    olds = vs.toList.take olds.length /\ ∀ (O' : Own) (w' : World) (b' o' : Nat), (∀ b o v, w.cell? ⟨b, o, none⟩ = some v -> ¬ C.forb β s b o -> w'.cell? ⟨b, o, none⟩ = some v /\ ¬ O' b o) ->
     Cells O' w' b' o' olds -> D.row O' w' b' o' sz xs := by
    rcases hrx with hrx | ⟨b', o', q2, q3⟩
    ·subst hrx; exact ⟨[], by simp, by simp, .inl rfl, by simp, fun _ _ _ _ _ _ => by simp [D.row]⟩
    ·rw [<- hxa] at q2
     obtain ⟨us, r1, r2, r3⟩ := row_copy q3
     cases q2
     exact ⟨us, r1, r2.one, .inr ⟨g, 0, rfl, r2⟩, cells_take k5 r2, r3⟩
   obtain ⟨olds, o1, o2, o3, o5, o4⟩ := hrowX
   obtain ⟨w', β1, rest, hrun, hst1, hok1, hβ1, hh1, hold⟩ := nst_grow (P := P) hst (ty := ty) ht hu hi hz hsz hb hb0 hz1 hz2 (base := some ⟨g, 0, none⟩) (sLen := xs.length) (sCap := capg) (xs := xs) rfl (olds := olds) o1 o2 o3 o4
    hln hln1 hnews hrowY (c := cap2) (by omega) hbd (id := j) (bs := bs) (by rw [hbj]; exact ⟨_, _, bs, rfl, by omega, fun h => by omega⟩)
    (fun b hb => by unfold blockOf; rw [hsj]; exact ⟨_, bs, hbj, .inr hb⟩) (List.nodup_cons.1 k10).2 (cs := cs) k3
    (fun β' F w' hm hbb => by
     have h5 := NXs.imp (f := fun x => x) (id_told hm) hbb k11
     rw [List.map_id'] at h5
     refine NXs_take h5 ?_
     rw [o5, k3, o1, List.take_take, Nat.min_self])
   obtain ⟨β', h1, h2⟩ := fin β1 w' _ _ _ olds rest hst1 hβ1 hh1 (hk3 o1) (hold b2 hb2lt) _ _ hok1
   exact ⟨_, w', β', hrun, h1, h2⟩
theorem s_appn {c : Call} (hop : o.op = .call c) (hc : c.callee = .builtin .append) {x y : Operand} (ha : c.args = #[x, y]) {t u : Nat}
 (hat : c.argTypes[0]? = some t) (hau : c.argTypes[1]? = some u) {e e2 : Nat} (ht : P.underlying t = some (.slice e)) (hu : P.underlying u = some (.slice e2))
 {sz by' : Nat} (hsz : sizeP P e = some sz) (hby : bytesP P e = some by') {z : List D} (hz : zeroD P e = some z) (hsz0 : 0 < sz) (hb0 : 0 < by')
 (hk : appnK e sz by' (ev env x) (ev env y) env s fun x env s => k (setD o.dst env x) s) : OpWp P C o env s k := by
 refine .value fun β a w hst => ?_
 obtain ⟨i, zv, hi, hzv, hz1, hz2, _⟩ := zeroD_spec hz
 have hisz : i.size = sz := by obtain ⟨i', h1, h2⟩ := sizeP_spec hsz; rw [hi] at h1; cases h1; exact h2
 have hib : i.bytes = by' := by obtain ⟨i', h1, h2⟩ := bytesP_spec hby; rw [hi] at h1; cases h1; exact h2
 have hexec : ∀ v w', (Builtin.append_ #[t, u] o.type #[a.eval x, a.eval y]).run P w = .ok v w' -> (execOp a.eval o).run P w = .ok (.value v) w' := by
  intro v w' hr
  have : ∀ w, (Builtin.append_ c.argTypes o.type #[a.eval x, a.eval y]).run P w = (Builtin.append_ #[t, u] o.type #[a.eval x, a.eval y]).run P w := by
   intro w
   unfold Builtin.append_
   simp [hat, hau]
  simp [execOp, hop, resolve, hc, ha, invoke, builtin, this, hr]
 have hx := hst.ev x
 have hy := hst.ev y
 unfold appnK at hk
 split at hk
 case h_2 => exact hk.elim
 rename_i e' j xs e2' j2 ys hxe hye
 obtain ⟨rfl, rfl, hj, hy0, hbd, hk⟩ := hk
 split at hk
 case h_2 => exact hk.elim
 rename_i t1 e3 n cs t2 e4 m cs2 hsj hsj2
 obtain ⟨rfl, rfl, rfl, rfl, rfl, hk⟩ := hk
 rw [hxe] at hx
 rw [hye] at hy
 obtain ⟨v, w', β', hrun, hst', hok⟩ := app_nst (P := P) hst (ty := o.type) ht hu hi hzv hisz hib hb0 hsz0 hz1 hz2 hj hy0 hsj hsj2 hx hy hbd
 exact ⟨v, w', β', env, _, _, hexec _ _ hrun, hst', hok, hk⟩
end
section
variable {P : Program} {C : Ctx} {o : Oper} {env : List AV} {s : Sto} {k : List AV -> Sto -> Prop}
theorem run_makeSlice {w : World} {t e : Nat} {i : TypeInfo} {u : Value} (ht : P.underlying t = some (.slice e)) (hi : P.info? e = some i) (hz : i.zero = some u)
 {j j' : IntKind} {l c : Int} (h0 : 0 <= l) (h1 : l <= c) (h2 : i.bytes * c <= 2 ^ 48) (h3 : c < 2 ^ 62) :
 (Instr.makeSlice t (.int j l) (.int j' c)).run P w = .ok (.slice (some ⟨w.heap.size, 0, none⟩) l.toNat c.toNat)
  (w.alloc (.cells ((Array.range (c.toNat * i.size)).map fun q => (if c.toNat * i.size = 0 then #[] else u.cells)[q % (if c.toNat * i.size = 0 then #[] else u.cells).size]!) e)) := by
 have w1 : IntKind.i64.wrap l = l := by
  unfold IntKind.wrap IntKind.bits IntKind.signed
  simp only [Bool.true_and]
  have : l % 2 ^ 64 = l := Int.emod_eq_of_lt h0 (by omega)
  rw [this]
  rw [if_neg]
  simp
  omega
 have w2 : IntKind.i64.wrap c = c := by
  unfold IntKind.wrap IntKind.bits IntKind.signed
  simp only [Bool.true_and]
  have : c % 2 ^ 64 = c := Int.emod_eq_of_lt (by omega) (by omega)
  rw [this]
  rw [if_neg]
  simp
  omega
 have hb1 : ¬ (c < 0) := by omega
 have hb2 : ¬ (i.bytes * c > 2 ^ 48) := by omega
 have hb3 : ¬ (l < 0) := by omega
 have hb4 : ¬ (l > c) := by omega
 simp only [Instr.makeSlice, Sem.run_bind, run_underlying ht, Result.andThen_ok, Go.asInt, asIntOf, Sem.run_pure, typeInfo, run_program, hi, w1, w2]
 have hc : (decide (c < 0) || decide (i.bytes * c > 2 ^ 48) || decide (l < 0) || decide (l > c)) = false := by
  rw [decide_eq_false hb1, decide_eq_false hb2, decide_eq_false hb3, decide_eq_false hb4]; rfl
 rw [if_neg (by rw [hc]; simp)]
 simp only [Sem.run_bind, run_askRoom, Result.andThen_ok, Go.sizeOf, typeInfo, run_program, hi, Sem.run_pure]
 by_cases hq : c.toNat * i.size = 0
 ·simp only [if_pos hq, Sem.run_pure, Result.andThen_ok, newRow, Sem.run_bind, run_newObj, World.alloc_eq]
 ·simp only [if_neg hq, zeroValue, typeInfo, Sem.run_bind, run_program, hi, hz, Sem.run_pure, Result.andThen_ok, newRow, run_newObj, World.alloc_eq]
theorem zeros_eq {z : Array Value} {sz n : Nat} (hz : z.size = sz) : ((Array.range (n * sz)).map fun q => z[q % sz]!).toList = (List.replicate n z.toList).flatten := by
 induction n with
 | zero => simp
 | succ n ih =>
  have e1 : (n + 1) * sz = n * sz + sz := by rw [Nat.add_mul]; omega
  rw [e1]
  simp only [Array.toList_map, Array.toList_range] at ih ⊢
  rw [List.range_add, List.map_append, ih, List.replicate_succ', List.flatten_append]
  congr 1
  simp only [List.flatten_cons, List.flatten_nil, List.append_nil, List.map_map]
  apply List.ext_getElem
  ·simp [hz]
  ·intro q h1 h2
   simp at h1
   have h3 : q < z.size := by omega
   simp only [List.getElem_map, List.getElem_range, Function.comp]
   have : (n * sz + q) % sz = q := by rw [Nat.add_comm, Nat.add_mul_mod_self_right, Nat.mod_eq_of_lt h1]
   rw [this, getElem!_pos z q h3]
   simp
theorem oks_flatten {β : Beta} {O : Own} {w : World} {xs : List AV} {vs : List Value} (h : AV.oks β O w xs vs) : ∀ n, AV.oks β O w (List.replicate n xs).flatten (List.replicate n vs).flatten
 | 0 => by simp [AV.oks]
 | n + 1 => by
  simp only [List.replicate_succ, List.flatten_cons]
  exact oks_append h (oks_flatten h n)
theorem s_mksl {d t : Nat} {len cap : Operand} (hop : o.op = .makeSlice t len cap) {e sz by' : Nat} (ht : P.underlying t = some (.slice e)) (hsz : sizeP P e = some sz)
 (hby : bytesP P e = some by') {z : List D} (hz : zeroD P e = some z) (hsz0 : 0 < sz) {tok : Bool} (htok : (tok = true /\ isZero len = true) ∨ (tok = false /\ sameOpd len cap = true))
 {l c : Int} (hl : aInt (ev env len) = some l) (hc : aInt (ev env cap) = some c) (h0 : 0 <= l) (h1 : l <= c) (h2 : by' * c <= 2 ^ 48) (h3 : c < 2 ^ 62)
 (hk : newK C.k d env s fun env s _ => if tok then k (setD o.dst env (.own sz d [])) (sset s d (.tok e sz 0))
  else k (setD o.dst env (.msl sz d 0 l.toNat)) (sset s d (.obj e ((List.replicate l.toNat (z.map .d)).flatten)))) : OpWp P C o env s k := by
 refine .value fun β a w hst => ?_
 obtain ⟨i, u, hi, hzu, hzs, hz1, rfl⟩ := zeroD_spec hz
 have hisz : i.size = sz := by obtain ⟨i', h1, h2⟩ := sizeP_spec hsz; rw [hi] at h1; cases h1; exact h2
 have hib : i.bytes = by' := by obtain ⟨i', h1, h2⟩ := bytesP_spec hby; rw [hi] at h1; cases h1; exact h2
 obtain ⟨jl, hvl⟩ := aInt_ok (hst.ev len) hl
 obtain ⟨jc, hvc⟩ := aInt_ok (hst.ev cap) hc
 have hrun := run_makeSlice (P := P) (w := w) ht hi hzu (j := jl) (j' := jc) h0 h1 (by rw [hib]; exact h2) h3
 rw [hisz] at hrun
 have hcells : ((Array.range (c.toNat * sz)).map fun q => (if c.toNat * sz = 0 then #[] else u.cells)[q % (if c.toNat * sz = 0 then #[] else u.cells).size]!).toList = (List.replicate c.toNat u.cells.toList).flatten := by
  by_cases hq : c.toNat * sz = 0
  ·have : c.toNat = 0 := by rcases Nat.mul_eq_zero.1 hq with h | h <;> omega
   simp [this]
  ·simp only [if_neg hq]
   rw [show u.cells.size = sz by omega]
   exact zeros_eq (by omega)
 generalize hA : ((Array.range (c.toNat * sz)).map fun q => (if c.toNat * sz = 0 then #[] else u.cells)[q % (if c.toNat * sz = 0 then #[] else u.cells).size]!) = arr at hrun hcells
 have harr1 : ∀ v ∈ arr.toList, one v = true := by
  rw [hcells]
  intro v hv
  simp only [List.mem_flatten, List.mem_replicate] at hv
  obtain ⟨l', ⟨_, rfl⟩, hv⟩ := hv
  exact hz1 v hv
 have hsize : arr.size = c.toNat * sz := by
  have := congrArg List.length hcells
  simp only [Array.length_toList] at this
  rw [this]
  simp
  rw [hzs, hisz]
 obtain ⟨β1, env1, s1, f, hst1, hd1, hk1, _, hf⟩ := newK_sound hk hst
 have hno : β1 d = .no := by have := hst1.inv.obs d; rw [hd1] at this; exact this
 have hexec : (execOp a.eval o).run P w = .ok (.value (.slice (some ⟨w.heap.size, 0, none⟩) l.toNat c.toNat)) (w.alloc (.cells arr e)) := by
  simp only [execOp, hop, hvl, hvc, Sem.run_bind, hrun, Result.andThen_ok, Sem.run_pure]
 rcases htok with ⟨rfl, hzl⟩ | ⟨rfl, hsame⟩
 ·have hl0 : l = 0 := by
   cases len with
   | const v =>
    cases v with
    | int j n =>
     have : n = 0 := by
      unfold isZero at hzl
      split at hzl
      ·rename_i heq; cases heq; rfl
      ·cases hzl
     subst this
     simp [Act.eval] at hvl
     omega
    | _ => simp [isZero] at hzl
   | _ => simp [isZero] at hzl
  subst hl0
  simp only [if_true] at hk1
  obtain ⟨β', hst', hok'⟩ := own_of_new hst1 (id := d) (t := e) (e := sz) (n := 0) (cap := c.toNat) (c := arr) (xs := []) (by rw [hno]; trivial) hsize (Nat.zero_le _) (by omega) harr1 rfl
   (fun _ _ _ _ => by simp [D.row])
  exact ⟨_, _, β', env1, _, _, hexec, hst', hok', hk1⟩
 ·have hlc : l = c := by
   unfold sameOpd at hsame
   split at hsame
   ·simp at hsame; subst hsame; rw [hvl] at hvc; cases hvc; rfl
   ·simp at hsame
    obtain ⟨rfl, rfl⟩ := hsame
    simp [Act.eval] at hvl hvc
    omega
   ·cases hsame
  subst hlc
  simp only [Bool.false_eq_true, if_false] at hk1
  obtain ⟨β', hst', m, hp⟩ := hst1.newObj (id := d) hd1 (c := arr) (t := e) (cs := (List.replicate l.toNat ((u.cells.toList.map cD).map .d)).flatten) harr1
   (by rw [hcells]; exact oks_flatten (d_oks (cDs_ok _ hz1)) _)
  refine ⟨_, _, β', env1, _, _, hexec, hst', ?_, hk1⟩
  simp only [AV.ok] at hp ⊢
  obtain ⟨b, h4, h5⟩ := hp
  cases h5
  exact ⟨_, l.toNat, h4, ⟨Nat.le_refl _, by omega⟩, rfl⟩
theorem row_rep {O : Own} {w : World} {b : Nat} {x : D} {v : Value} (hx : D.ok O w x v) (h1 : ∀ cs, x ≠ .agg cs) : ∀ (n o : Nat), Cells O w b o (List.replicate n v) -> D.row O w b o 1 (List.replicate n x)
 | 0, _, _ => by simp [D.row]
 | n + 1, o, h => by
  rw [List.replicate_succ, D.row_cons]
  refine ⟨⟨[v], rfl, fun j u hj => ?_, ?_⟩, row_rep hx h1 n (o + 1) fun j u hj => ?_⟩
  ·cases j with
   | zero => exact h 0 u (by simpa [List.replicate_succ] using hj)
   | succ j => simp at hj
  ·cases x with
   | agg cs => exact absurd rfl (h1 cs)
   | any => exact ⟨v, rfl, hx⟩
   | lit u => exact ⟨v, rfl, hx⟩
   | sl e nl ys => exact ⟨v, rfl, hx⟩
  ·have := h (j + 1) u (by simpa [List.replicate_succ] using hj)
   rwa [show o + (j + 1) = o + 1 + j by omega] at this
theorem cD_agg {v : Value} {cs : List D} : cD v ≠ .agg cs := by
 unfold cD
 split
 ·intro h; cases h
 ·split <;> intro h <;> cases h
theorem s_mksld {t : Nat} {len cap : Operand} (hop : o.op = .makeSlice t len cap) {e by' : Nat} (ht : P.underlying t = some (.slice e)) (hsz : sizeP P e = some 1)
 (hby : bytesP P e = some by') {zd : D} (hz : zeroD P e = some [zd]) (hsame : sameOpd len cap = true)
 {l c : Int} (hl : aInt (ev env len) = some l) (hc : aInt (ev env cap) = some c) (h0 : 0 <= l) (h1 : l <= c) (h2 : by' * c <= 2 ^ 48) (h3 : c < 2 ^ 62)
 (hk : k (setD o.dst env (.d (.sl 1 none (List.replicate l.toNat zd)))) s) : OpWp P C o env s k := by
 refine .value fun β a w hst => ?_
 obtain ⟨i, u, hi, hzu, hzs, hz1, hze⟩ := zeroD_spec hz
 have hisz : i.size = 1 := by obtain ⟨i', h1, h2⟩ := sizeP_spec hsz; rw [hi] at h1; cases h1; exact h2
 have hib : i.bytes = by' := by obtain ⟨i', h1, h2⟩ := bytesP_spec hby; rw [hi] at h1; cases h1; exact h2
 obtain ⟨jl, hvl⟩ := aInt_ok (hst.ev len) hl
 obtain ⟨jc, hvc⟩ := aInt_ok (hst.ev cap) hc
 have hrun := run_makeSlice (P := P) (w := w) ht hi hzu (j := jl) (j' := jc) h0 h1 (by rw [hib]; exact h2) h3
 rw [hisz] at hrun
 have hcells : ((Array.range (c.toNat * 1)).map fun q => (if c.toNat * 1 = 0 then #[] else u.cells)[q % (if c.toNat * 1 = 0 then #[] else u.cells).size]!).toList = (List.replicate c.toNat u.cells.toList).flatten := by
  by_cases hq : c.toNat * 1 = 0
  ·have : c.toNat = 0 := by omega
   simp [this]
  ·simp only [if_neg hq]
   rw [show u.cells.size = 1 by omega]
   exact zeros_eq (by omega)
 generalize hA : ((Array.range (c.toNat * 1)).map fun q => (if c.toNat * 1 = 0 then #[] else u.cells)[q % (if c.toNat * 1 = 0 then #[] else u.cells).size]!) = arr at hrun hcells
 obtain ⟨v0, hv0⟩ : ∃ v0, u.cells.toList = [v0] := by
  have : u.cells.toList.length = 1 := by simp [hzs, hisz]
  match u.cells.toList, this with
  | [x], _ => exact ⟨x, rfl⟩
 rw [hv0] at hcells hze hz1
 have hzd : zd = cD v0 := by simpa using hze
 have hfl : (List.replicate c.toNat [v0]).flatten = List.replicate c.toNat v0 := by
  induction c.toNat with
  | zero => rfl
  | succ n ih => simp only [List.replicate_succ, List.flatten_cons, ih]; rfl
 rw [hfl] at hcells
 have hone : one v0 = true := hz1 v0 (by simp)
 have hlc : l = c := by
  unfold sameOpd at hsame
  split at hsame
  ·simp at hsame; subst hsame; rw [hvl] at hvc; cases hvc; rfl
  ·simp at hsame
   obtain ⟨rfl, rfl⟩ := hsame
   simp [Act.eval] at hvl hvc
   omega
  ·cases hsame
 subst hlc
 have hexec : (execOp a.eval o).run P w = .ok (.value (.slice (some ⟨w.heap.size, 0, none⟩) l.toNat l.toNat)) (w.alloc (.cells arr e)) := by
  simp only [execOp, hop, hvl, hvc, Sem.run_bind, hrun, Result.andThen_ok, Sem.run_pure]
 obtain ⟨g1, g2⟩ := data_of_new hst (t := e) (e := 1) (n := l.toNat) (cap := l.toNat) (c := arr) (xs := List.replicate l.toNat zd) (Nat.le_refl _) (by omega)
  (fun v hv => by rw [hcells] at hv; rw [(List.mem_replicate.1 hv).2]; exact hone) (by simp)
  (fun O' w' _ hcl => by
   rw [hcells, Nat.mul_one, List.take_of_length_le (by simp)] at hcl
   rw [hzd]
   exact row_rep (cD_ok v0 hone) (fun _ => cD_agg) _ _ hcl)
 exact ⟨_, _, β, env, s, _, hexec, g1, by simpa only [AV.ok] using g2, hk⟩
theorem flat_len {α : Type} {z : List α} {n : Nat} : ((List.replicate n z).flatten).length = n * z.length := by
 induction n with
 | zero => simp
 | succ n ih => rw [List.replicate_succ, List.flatten_cons, List.length_append, ih, Nat.add_mul]; omega
theorem noDp_rep {z : List D} : ∀ n : Nat, noDp ((List.replicate n (z.map .d)).flatten) = true := fun n => by
 simp only [noDp, List.all_eq_true]
 intro x hx
 rw [List.mem_flatten] at hx
 obtain ⟨l, h1, h2⟩ := hx
 rw [(List.mem_replicate.1 h1).2] at h2
 obtain ⟨d, _, rfl⟩ := List.mem_map.1 h2
 rfl
theorem s_mkslp {t : Nat} {len cap : Operand} (hop : o.op = .makeSlice t len cap) {e sz by' d : Nat} (ht : P.underlying t = some (.slice e)) (hsz : sizeP P e = some sz)
 (hby : bytesP P e = some by') {z : List D} (hz : zeroD P e = some z) (hsame : sameOpd len cap = true)
 {l c : Int} (hl : aInt (ev env len) = some l) (hc : aInt (ev env cap) = some c) (h0 : 0 <= l) (h1 : l <= c) (h2 : by' * c <= 2 ^ 48) (h3 : c < 2 ^ 62) (_ : o.dst = some d)
 (he0 : 0 < sz) (h4 : C.k <= d) (h5 : (sat s d).isDead = true)
 (hk : k (setD o.dst env (.gow sz d l.toNat)) (sset s d (.prv sz l.toNat ((List.replicate l.toNat (z.map .d)).flatten)))) : OpWp P C o env s k := by
 refine .value fun β a w hst => ?_
 obtain ⟨i, u, hi, hzu, hzs, hz1, hze⟩ := zeroD_spec hz
 have hisz : i.size = sz := by obtain ⟨i', h1, h2⟩ := sizeP_spec hsz; rw [hi] at h1; cases h1; exact h2
 have hib : i.bytes = by' := by obtain ⟨i', h1, h2⟩ := bytesP_spec hby; rw [hi] at h1; cases h1; exact h2
 obtain ⟨jl, hvl⟩ := aInt_ok (hst.ev len) hl
 obtain ⟨jc, hvc⟩ := aInt_ok (hst.ev cap) hc
 have hrun := run_makeSlice (P := P) (w := w) ht hi hzu (j := jl) (j' := jc) h0 h1 (by rw [hib]; exact h2) h3
 rw [hisz] at hrun
 have hcells : ((Array.range (c.toNat * sz)).map fun q => (if c.toNat * sz = 0 then #[] else u.cells)[q % (if c.toNat * sz = 0 then #[] else u.cells).size]!).toList = (List.replicate c.toNat u.cells.toList).flatten := by
  by_cases hq : c.toNat * sz = 0
  ·have : c.toNat = 0 := by
    rcases Nat.mul_eq_zero.1 hq with h | h
    ·exact h
    ·omega
   simp [this]
  ·simp only [if_neg hq]
   rw [show u.cells.size = sz by rw [hzs, hisz]]
   exact zeros_eq (by rw [hzs, hisz])
 generalize hA : ((Array.range (c.toNat * sz)).map fun q => (if c.toNat * sz = 0 then #[] else u.cells)[q % (if c.toNat * sz = 0 then #[] else u.cells).size]!) = arr at hrun hcells
 have hlc : l = c := by
  unfold sameOpd at hsame
  split at hsame
  ·simp at hsame; subst hsame; rw [hvl] at hvc; cases hvc; rfl
  ·simp at hsame
   obtain ⟨rfl, rfl⟩ := hsame
   simp [Act.eval] at hvl hvc
   omega
  ·cases hsame
 subst hlc
 have hdead : sat s d = .dead := by cases hs : sat s d <;> rw [hs] at h5 <;> first | rfl | cases h5
 have hno : β d = .no := by have := hst.inv.obs d; rw [hdead] at this; exact this
 have hexec : (execOp a.eval o).run P w = .ok (.value (.slice (some ⟨w.heap.size, 0, none⟩) l.toNat l.toNat)) (w.alloc (.cells arr e)) := by
  simp only [execOp, hop, hvl, hvc, Sem.run_bind, hrun, Result.andThen_ok, Sem.run_pure]
 have hzl : z.length = sz := by rw [hze, List.length_map, Array.length_toList, hzs, hisz]
 have harr : arr.size = l.toNat * sz := by
  have := congrArg List.length hcells
  rw [flat_len] at this
  rw [<- Array.length_toList, this, Array.length_toList, hzs, hisz]
 have hone : ∀ v ∈ arr.toList, one v = true := fun v hv => by
  rw [hcells, List.mem_flatten] at hv
  obtain ⟨q, h1, h2⟩ := hv
  rw [(List.mem_replicate.1 h1).2] at h2
  exact hz1 v h2
 have hzok : ∀ β' F w', AV.oks β' F w' (z.map .d) u.cells.toList := fun β' F w' => by
  rw [hze]
  have : ∀ vs : List Value, (∀ v ∈ vs, one v = true) -> AV.oks β' F w' ((vs.map cD).map .d) vs := fun vs => by
   induction vs with
   | nil => intro _; simp [AV.oks]
   | cons v vs ih => intro h; simp only [List.map_cons, AV.oks]; exact ⟨v, vs, rfl, by simp only [AV.ok]; exact cD_ok v (h v (by simp)), ih fun q hq => h q (by simp [hq])⟩
  exact this _ hz1
 obtain ⟨g1, _⟩ := hst.fresh (id := d) (ob := .prv sz l.toNat ((List.replicate l.toNat (z.map .d)).flatten)) (p := .nst (.slice (some ⟨w.heap.size, 0, none⟩) l.toNat l.toNat) l.toNat []) (c := arr) (t := e) (by rw [hno]; trivial)
  (fun b q ho => by
   obtain ⟨i', ho⟩ := ho
   by_cases hi' : i' = d
   ·subst hi'
    simp only [sat, if_true, bset] at ho
    obtain ⟨v', q', p1, p2⟩ := ho
    simp only [Place.nst.injEq, true_and] at p1
    obtain ⟨rfl, rfl⟩ := p1
    rcases p2 with ⟨_, p2, _⟩ | p2
    ·simp at p2; exact p2.1.symm
    ·simp at p2
   ·simp [sat, hi'] at ho)
  (fun b hb => by
   simp only [blockOf, sat, if_true, bset] at hb
   obtain ⟨v', q', p1, p2⟩ := hb
   simp only [Place.nst.injEq, true_and] at p1
   obtain ⟨rfl, rfl⟩ := p1
   rcases p2 with ⟨_, p2, _⟩ | p2
   ·simp at p2; exact p2.1.symm
   ·simp at p2)
  (fun β' F hok _ hp => ⟨_, [], hp, fun _ h => by simp at h, by rw [flat_len, List.length_map, hzl], by
   rcases Nat.eq_zero_or_pos l.toNat with hz0 | hz0
   ·exact .inl ⟨⟨_, by rw [hz0]⟩, hz0, rfl⟩
   ·refine .inr ⟨w.heap.size, l.toNat, arr, e, rfl, heap_alloc_new, harr, Nat.le_refl _, by omega, hone, hz0, by simp, ?_⟩
    have := NXs_of_oks (rest := []) (noDp_rep (z := z) l.toNat) (oks_flatten (hzok β' F (w.alloc (.cells arr e))) l.toNat)
    rw [List.append_nil, <- hcells] at this
    exact this⟩)
 refine ⟨_, _, _, env, _, .gow sz d l.toNat, hexec, g1, ?_, hk⟩
 simp only [AV.ok]
 exact ⟨_, l.toNat, by simp [bset, Place.at], Nat.le_refl _, fun _ => rfl, .inr ⟨w.heap.size, l.toNat, rfl, Nat.le_refl _, by omega⟩⟩
end
theorem ownAt_congr {β β' : Beta} {s s' : Sto} {i j b o : Nat} {ρ : Nat -> Option Nat} (hb : β' j = β i) (hs : sat s' j = (sat s i).ren ρ) : ownAt β' s' j b o ↔ ownAt β s i b o := by
 unfold ownAt
 rw [hs, hb]
 cases sat s i <;> simp [Ob.ren]
theorem blockOf_congr {β β' : Beta} {s s' : Sto} {i j b : Nat} {ρ : Nat -> Option Nat} (hb : β' j = β i) (hs : sat s' j = (sat s i).ren ρ) : blockOf β' s' j b ↔ blockOf β s i b := by
 unfold blockOf
 rw [hs, hb]
 cases sat s i <;> simp [Ob.ren]
theorem ownAt_same {β β' : Beta} {s s' : Sto} {i b o : Nat} (hb : β' i = β i) (hs : sat s' i = sat s i) : ownAt β' s' i b o ↔ ownAt β s i b o := by
 unfold ownAt; rw [hs, hb]
theorem blockOf_same {β β' : Beta} {s s' : Sto} {i b : Nat} (hb : β' i = β i) (hs : sat s' i = sat s i) : blockOf β' s' i b ↔ blockOf β s i b := by
 unfold blockOf; rw [hs, hb]
theorem outρ_mem : ∀ {mp : List (Nat × Nat)} {c j : Nat}, outρ mp c = some j -> (c, j) ∈ mp
 | [], _, _ => fun h => by simp [outρ] at h
 | (c', j') :: r, c, j => fun h => by
  simp only [outρ] at h
  split at h
  ·rename_i hc; cases h; subst hc; simp
  ·exact List.mem_cons_of_mem _ (outρ_mem h)
theorem outρ_of_mem : ∀ {mp : List (Nat × Nat)} {c j : Nat}, (mp.map (·.1)).Nodup -> (c, j) ∈ mp -> outρ mp c = some j
 | [], _, _ => fun _ h => by simp at h
 | (c', j') :: r, c, j => fun hn h => by
  simp only [List.map_cons, List.nodup_cons] at hn
  simp only [outρ]
  rcases List.mem_cons.1 h with h2 | h2
  ·cases h2; simp
  ·have : c ≠ c' := fun e => hn.1 (List.mem_map.2 ⟨(c, j), h2, e⟩)
   rw [if_neg this]
   exact outρ_of_mem hn.2 h2
theorem inρ_mem : ∀ {mp : List (Nat × Nat)} {c j : Nat}, inρ mp j = some c -> (c, j) ∈ mp
 | [], _, _ => fun h => by simp [inρ] at h
 | (c', j') :: r, c, j => fun h => by
  simp only [inρ] at h
  split at h
  ·rename_i hc; cases h; subst hc; simp
  ·exact List.mem_cons_of_mem _ (inρ_mem h)
theorem sat_scallee {s : Sto} {pr : List (Nat × Nat)} : ∀ {mp : List (Nat × Nat)}, (mp.map (·.1)).Nodup -> ∀ c, sat (scallee s pr mp) c = match outρ mp c with | some j => (sat s j).ren (inρ pr) | none => .dead
 | [], _, c => rfl
 | (c', j') :: r, hn, c => by
  simp only [List.map_cons, List.nodup_cons] at hn
  have ih := sat_scallee (s := s) (pr := pr) hn.2 c
  simp only [scallee, List.map_cons, sat, outρ] at ih ⊢
  split
  ·rfl
  ·exact ih
theorem sat_sback {s' : Sto} {all : List (Nat × Nat)} : ∀ {mp : List (Nat × Nat)} {s : Sto}, (mp.map (·.2)).Nodup -> ∀ id,
 sat (sback s s' mp all) id = match inρ mp id with | some c => (sat s' c).ren (outρ all) | none => sat s id
 | [], s, _, id => rfl
 | (c', j') :: r, s, hn, id => by
  simp only [List.map_cons, List.nodup_cons] at hn
  simp only [sback, inρ]
  rw [sat_sback hn.2]
  by_cases h : id = j'
  ·subst h
   have : inρ r id = none := by
    cases hq : inρ r id with
    | none => rfl
    | some c => exact absurd (List.mem_map.2 ⟨(c, id), inρ_mem hq, rfl⟩) hn.1
   rw [this]
   simp [sat_sset]
  ·rw [if_neg h]
   cases inρ r id with
   | some c => rfl
   | none => simp only [sat_sset, if_neg h]
theorem inρ_of_mem : ∀ {mp : List (Nat × Nat)} {c j : Nat}, (mp.map (·.2)).Nodup -> (c, j) ∈ mp -> inρ mp j = some c
 | [], _, _ => fun _ h => by simp at h
 | (c', j') :: r, c, j => fun hn h => by
  simp only [List.map_cons, List.nodup_cons] at hn
  simp only [inρ]
  rcases List.mem_cons.1 h with h2 | h2
  ·cases h2; simp
  ·have : j ≠ j' := fun e => hn.1 (List.mem_map.2 ⟨(c, j), h2, e⟩)
   rw [if_neg this]
   exact inρ_of_mem hn.2 h2
theorem oks_args {β β' : Beta} {O : Own} {w : World} {ρ : Nat -> Option Nat} (hr : ∀ i j, ρ i = some j -> β' j = β i) : ∀ {xs : List AV} {vs : List Value}, AV.oks β O w xs vs ->
 AV.oks β' O w (xs.map fun x => x.ren ρ) vs
 | [], vs => fun h => by simpa [AV.oks] using h
 | x :: xs, vs => fun h => by
  simp only [AV.oks, List.map_cons] at h ⊢
  obtain ⟨v, r, h1, h2, h3⟩ := h
  exact ⟨v, r, h1, AV.ok_ren hr _ _ h2, oks_args hr h3⟩
theorem call_sound {P : Program} {C : Ctx} {f : Nat} {args env : List AV} {s : Sto} {K : AV -> List AV -> Sto -> Prop} (hk : callK P C.k f args env s K) {β : Beta} {a : Act} {w : World}
 (hst : St C β env s a w) {vs : Array Value} (hvs : AV.oks β (C.forb β s) w args vs.toList) :
 Calls P f vs w fun e w' => ∃ v x β' s', e = .returned v /\ St C β' env s' a w' /\ AV.ok β' (C.forb β' s') w' x v /\ K x env s' := by
 obtain ⟨pr, nw, R, hpr, hn1, hn2, hnw, hcall, hR⟩ := hk
 have hp1 : (pr.map (·.1)).Nodup := by rw [List.map_append] at hn1; exact (List.nodup_append.1 hn1).1
 have hp2 : (pr.map (·.2)).Nodup := by rw [List.map_append] at hn2; exact (List.nodup_append.1 hn2).1
 -- the callee's world
 let βc : Beta := fun c => match outρ pr c with | some j => β j | none => .no
 have hβc : ∀ c j, (c, j) ∈ pr -> βc c = β j := fun c j h => by show (match outρ pr c with | some j => β j | none => .no) = _; rw [outρ_of_mem hp1 h]
 have hsc : ∀ c j, (c, j) ∈ pr -> sat (scallee s pr pr) c = (sat s j).ren (inρ pr) := fun c j h => by rw [sat_scallee hp1, outρ_of_mem hp1 h]
 have hscn : ∀ c, outρ pr c = none -> sat (scallee s pr pr) c = .dead /\ βc c = .no := fun c h => by
  rw [sat_scallee hp1, h]; exact ⟨rfl, by show (match outρ pr c with | some j => β j | none => .no) = _; rw [h]⟩
 have hownc : ∀ b o, own βc (scallee s pr pr) b o ↔ ∃ c j, (c, j) ∈ pr /\ ownAt β s j b o := fun b o => by
  rw [own_iff]
  constructor
  ·rintro ⟨c, h⟩
   cases hq : outρ pr c with
   | none => unfold ownAt at h; rw [(hscn c hq).1] at h; exact h.elim
   | some j => have hm := outρ_mem hq; exact ⟨c, j, hm, (ownAt_congr (hβc c j hm) (hsc c j hm)).1 h⟩
  ·rintro ⟨c, j, hm, h⟩
   exact ⟨c, (ownAt_congr (hβc c j hm) (hsc c j hm)).2 h⟩
 have hblkc : ∀ c b, blockOf βc (scallee s pr pr) c b -> ∃ j, (c, j) ∈ pr /\ blockOf β s j b := fun c b h => by
  cases hq : outρ pr c with
  | none => unfold blockOf at h; rw [(hscn c hq).1] at h; exact h.elim
  | some j => have hm := outρ_mem hq; exact ⟨j, hm, (blockOf_congr (hβc c j hm) (hsc c j hm)).1 h⟩
 let C' : Ctx := { O := fun b o => C.O b o ∨ ∃ id, (∀ c, (c, id) ∉ pr) /\ ownAt β s id b o, β := βc, s := scallee s pr pr, w := w, k := pr.length }
 have hOown : ∀ b o, C.O b o -> ¬ own β s b o := fun b o h1 h2 => by
  have := hst.inv.low b o h1
  rcases hst.inv.ownd b o h2 with h3 | h3
  ·exact this.2 h3
  ·omega
 have hforb : ∀ b o, C'.forb βc (scallee s pr pr) b o ↔ C.forb β s b o := fun b o => by
  constructor
  ·rintro ((h | ⟨id, _, h⟩) | h)
   ·exact .inl h
   ·exact .inr ⟨id, h⟩
   ·obtain ⟨c, j, _, h⟩ := (hownc b o).1 h; exact .inr ⟨j, h⟩
  ·rintro (h | ⟨id, h⟩)
   ·exact .inl (.inl h)
   ·by_cases hq : ∃ c, (c, id) ∈ pr
    ·obtain ⟨c, hc⟩ := hq; exact .inr ((hownc b o).2 ⟨c, id, hc, h⟩)
    ·exact .inl (.inr ⟨id, fun c hc => hq ⟨c, hc⟩, h⟩)
 have hforbE : C'.forb βc (scallee s pr pr) = C.forb β s := by funext b o; exact propext (hforb b o)
 have hinρ : ∀ i j, inρ pr i = some j -> βc j = β i := fun i j h => hβc j i (inρ_mem h)
 have hInv : Inv C' C'.β C'.s C'.w := by
  refine ⟨Nat.le_refl _, rfl, fun _ _ _ h _ => h, fun _ _ _ => rfl, fun _ _ h => .inl h, fun id b h => .inl ⟨id, h⟩, fun _ _ => .refl _, ?_, ?_, ?_⟩
  ·rintro b o (h | ⟨id, hid, h⟩)
   ·refine ⟨Nat.lt_of_lt_of_le (hst.inv.low b o h).1 hst.inv.size, fun h2 => ?_⟩
    obtain ⟨c, j, _, h3⟩ := (hownc b o).1 h2
    exact hOown b o h ⟨j, h3⟩
   ·refine ⟨hst.inv.blk_lt h.block, fun h2 => ?_⟩
    obtain ⟨c, j, hm, h3⟩ := (hownc b o).1 h2
    have := hst.inv.inj id j b h.block h3.block
    subst this
    exact hid c hm
  ·intro c
   show ObOk βc (C'.forb βc (scallee s pr pr)) w c (sat (scallee s pr pr) c)
   rw [hforbE]
   cases hq : outρ pr c with
   | none => rw [(hscn c hq).1]; exact (hscn c hq).2
   | some j =>
    have hm := outρ_mem hq
    rw [hsc c j hm]
    have ho := hst.inv.obs j
    cases hs : sat s j with
    | dead => rw [hs] at ho; exact (hβc c j hm).trans ho
    | obj t cs =>
     rw [hs] at ho
     obtain ⟨b, us, h1, h2, h3, h4⟩ := ho
     exact ⟨b, us, by rw [hβc c j hm, h1], h2, h3, h4.imp fun _ h => AV.oks_ren hinρ _ _ h⟩
    | tok t e n =>
     rw [hs] at ho
     obtain ⟨u, h1, h2⟩ := ho
     exact ⟨u, by rw [hβc c j hm, h1], h2⟩
    | gro t e n cs =>
     rw [hs] at ho
     obtain ⟨u, h1, h2⟩ := ho
     exact ⟨u, by rw [hβc c j hm, h1], h2⟩
    | nst t e n cs =>
     rw [hs] at ho
     obtain ⟨u, bs, h1, h0, h2⟩ := ho
     refine ⟨u, bs, by rw [hβc c j hm, h1], h0, ?_⟩
     rw [rens_mapB]
     exact h2.imp (fun x v => told_ren fun hx => AV.ok_ren hinρ _ _ hx) (fun _ _ => rfl) (fun _ _ _ => rfl)
    | prv e n cs =>
     rw [hs] at ho
     obtain ⟨u, bs, h1, h0, h2⟩ := ho
     refine ⟨u, bs, by rw [hβc c j hm, h1], h0, ?_⟩
     rw [rens_mapB]
     exact h2.imp (fun x v => told_ren fun hx => AV.ok_ren hinρ _ _ hx) (fun _ _ => rfl) (fun _ _ _ _ => rfl)
    | mp P k es =>
     rw [hs] at ho
     obtain ⟨b, h1, h2⟩ := ho
     exact ⟨b, by rw [hβc c j hm, h1], h2⟩
  ·intro i i' b h1 h2
   obtain ⟨j, hm, h3⟩ := hblkc i b h1
   obtain ⟨j', hm', h4⟩ := hblkc i' b h2
   have := hst.inv.inj j j' b h3 h4
   subst this
   have e1 := inρ_of_mem hp2 hm
   have e2 := inρ_of_mem hp2 hm'
   rw [e1] at e2
   cases e2; rfl
 refine (hcall C' vs rfl rfl hInv (by show AV.oks βc (C'.forb βc (scallee s pr pr)) w _ _; rw [hforbE]; exact oks_args hinρ hvs)).mono ?_
 rintro e w' ⟨v, x, β', s', rfl, hi', hx, hr⟩
 -- back
 let βr : Beta := fun id => match inρ (pr ++ nw) id with | some c => β' c | none => β id
 have hmem : ∀ c j, (c, j) ∈ pr ++ nw -> βr j = β' c /\ sat (sback s s' (pr ++ nw) (pr ++ nw)) j = (sat s' c).ren (outρ (pr ++ nw)) := fun c j h => by
  have hq := inρ_of_mem hn2 h
  exact ⟨by show (match inρ (pr ++ nw) j with | some c => β' c | none => β j) = _; rw [hq], by rw [sat_sback hn2, hq]⟩
 have hnot : ∀ j, (∀ c, (c, j) ∉ pr ++ nw) -> βr j = β j /\ sat (sback s s' (pr ++ nw) (pr ++ nw)) j = sat s j := fun j h => by
  have hq : inρ (pr ++ nw) j = none := by
   cases hq : inρ (pr ++ nw) j with
   | none => rfl
   | some c => exact absurd (inρ_mem hq) (h c)
  exact ⟨by show (match inρ (pr ++ nw) j with | some c => β' c | none => β j) = _; rw [hq], by rw [sat_sback hn2, hq]⟩
 have hcase : ∀ j, (∃ c, (c, j) ∈ pr ++ nw) ∨ ∀ c, (c, j) ∉ pr ++ nw := fun j => by
  by_cases h : ∃ c, (c, j) ∈ pr ++ nw
  ·exact .inl h
  ·exact .inr fun c hc => h ⟨c, hc⟩
 have hblk1 : ∀ c j b, (c, j) ∈ pr ++ nw -> (blockOf βr (sback s s' (pr ++ nw) (pr ++ nw)) j b ↔ blockOf β' s' c b) := fun c j b h => blockOf_congr (hmem c j h).1 (hmem c j h).2
 have hown1 : ∀ c j b o, (c, j) ∈ pr ++ nw -> (ownAt βr (sback s s' (pr ++ nw) (pr ++ nw)) j b o ↔ ownAt β' s' c b o) := fun c j b o h => ownAt_congr (hmem c j h).1 (hmem c j h).2
 have hblk2 : ∀ j b, (∀ c, (c, j) ∉ pr ++ nw) -> (blockOf βr (sback s s' (pr ++ nw) (pr ++ nw)) j b ↔ blockOf β s j b) := fun j b h => blockOf_same (hnot j h).1 (hnot j h).2
 have hown2 : ∀ j b o, (∀ c, (c, j) ∉ pr ++ nw) -> (ownAt βr (sback s s' (pr ++ nw) (pr ++ nw)) j b o ↔ ownAt β s j b o) := fun j b o h => ownAt_same (hnot j h).1 (hnot j h).2
 have hpsub : ∀ j, (∀ c, (c, j) ∉ pr ++ nw) -> ∀ c, (c, j) ∉ pr := fun j h c hc => h c (List.mem_append_left _ hc)
 have hnewdead : ∀ c j, (c, j) ∈ nw -> sat s j = .dead /\ β j = .no := fun c j h => by
  have h1 := (hnw _ h).1
  have := hst.inv.obs j
  rw [h1] at this
  exact ⟨h1, this⟩
 have m : Moves β s w βr (sback s s' (pr ++ nw) (pr ++ nw)) w' := by
  refine ⟨hi'.size, hi'.io, fun b o v hc hno => hi'.keep b o v hc fun h => ?_, fun b hb hno => hi'.blks b hb fun c h => ?_, fun b o ho => ?_, fun j b hb => ?_, fun j => ?_⟩
  ·obtain ⟨c, j, _, h⟩ := (hownc b o).1 h
   exact hno ⟨j, h⟩
  ·obtain ⟨j, _, h⟩ := hblkc c b h
   exact hno j h
  ·obtain ⟨j, hj⟩ := own_iff.1 ho
   rcases hcase j with ⟨c, hc⟩ | hc
   ·rcases hi'.ownd b o ⟨c, (hown1 c j b o hc).1 hj⟩ with h | h
    ·obtain ⟨c', j', _, h⟩ := (hownc b o).1 h; exact .inl ⟨j', h⟩
    ·exact .inr h
   ·exact .inl ⟨j, (hown2 j b o hc).1 hj⟩
  ·rcases hcase j with ⟨c, hc⟩ | hc
   ·rcases hi'.ownB c b ((hblk1 c j b hc).1 hb) with ⟨i, h⟩ | h
    ·obtain ⟨j', _, h⟩ := hblkc i b h; exact .inl ⟨j', h⟩
    ·exact .inr h
   ·exact .inl ⟨j, (hblk2 j b hc).1 hb⟩
  ·rcases hcase j with ⟨c, hc⟩ | hc
   ·rw [(hmem c j hc).1]
    rcases List.mem_append.1 hc with hc | hc
    ·have hlt : c < pr.length := by
      have : c ∈ pr.map (·.1) := List.mem_map.2 ⟨(c, j), hc, rfl⟩
      rw [hpr] at this
      exact List.mem_range.1 this
     have := hi'.pl c hlt
     rwa [show C'.β c = β j from hβc c j hc] at this
    ·rw [(hnewdead c j hc).2]; trivial
   ·rw [(hnot j hc).1]; exact .refl _
 have hforb' : ∀ b o, C.forb βr (sback s s' (pr ++ nw) (pr ++ nw)) b o -> C'.forb β' s' b o := fun b o h => by
  rcases h with h | h
  ·exact .inl (.inl h)
  ·obtain ⟨j, hj⟩ := own_iff.1 h
   rcases hcase j with ⟨c, hc⟩ | hc
   ·exact .inr ⟨c, (hown1 c j b o hc).1 hj⟩
   ·exact .inl (.inr ⟨j, hpsub j hc, (hown2 j b o hc).1 hj⟩)
 have hback : ∀ y u, AV.ok β' (C'.forb β' s') w' y u -> AV.ok βr (C.forb βr (sback s s' (pr ++ nw) (pr ++ nw))) w' (y.ren (outρ (pr ++ nw))) u := fun y u h => by
  have h1 := AV.ok_ren (β' := βr) (ρ := outρ (pr ++ nw)) (fun i j hij => (hmem i j (outρ_mem hij)).1) y u h
  exact AV.ok_mono (fun b o v hc hno => ⟨hc, fun h => hno (hforb' b o h)⟩) (fun _ => .refl _) _ _ h1
 have hbacks : ∀ ys us, AV.oks β' (C'.forb β' s') w' ys us -> AV.oks βr (C.forb βr (sback s s' (pr ++ nw) (pr ++ nw))) w' (AV.rens (outρ (pr ++ nw)) ys) us := fun y u h => by
  have h1 := AV.oks_ren (β' := βr) (ρ := outρ (pr ++ nw)) (fun i j hij => (hmem i j (outρ_mem hij)).1) y u h
  exact AV.oks_mono (fun b o v hc hno => ⟨hc, fun h => hno (hforb' b o h)⟩) (fun _ => .refl _) _ _ h1
 refine ⟨v, _, βr, _, rfl, hst.move m (fun j => ?_) (fun i j b h1 h2 => ?_), hback x v hx, hR x s' hr⟩
 ·rcases hcase j with ⟨c, hc⟩ | hc
  ·rw [(hmem c j hc).2]
   have ho := hi'.obs c
   cases hs : sat s' c with
   | dead => rw [hs] at ho; exact (hmem c j hc).1.trans ho
   | obj t cs =>
    rw [hs] at ho
    obtain ⟨b, us, h1, h2, h3, h4⟩ := ho
    exact ⟨b, us, by rw [(hmem c j hc).1, h1], h2, h3, h4.imp fun _ h => hbacks _ _ h⟩
   | tok t e n =>
    rw [hs] at ho
    obtain ⟨u, h1, h2⟩ := ho
    exact ⟨u, by rw [(hmem c j hc).1, h1], h2⟩
   | gro t e n cs =>
    rw [hs] at ho
    obtain ⟨u, h1, hl, h2⟩ := ho
    refine ⟨u, by rw [(hmem c j hc).1, h1], hl, ?_⟩
    rcases h2 with h2 | ⟨b, cap, vs, h2, h3, h4, h5, h6, h7, pre, rest, h8, h9⟩
    ·exact .inl h2
    ·exact .inr ⟨b, cap, vs, h2, h3, h4, h5, h6, h7, pre, rest, h8, D.oks_mono (fun b o v hc hno => ⟨hc, fun h => hno (hforb' b o h)⟩) _ _ h9⟩
   | nst t e n cs =>
    rw [hs] at ho
    obtain ⟨u, bs, h1, h0, h2⟩ := ho
    refine ⟨u, bs, by rw [(hmem c j hc).1, h1], h0, ?_⟩
    rw [rens_mapB]
    exact h2.imp (fun x v => told_ren (hback x v)) (fun _ _ => rfl) (fun _ _ _ => rfl)
   | prv e n cs =>
    rw [hs] at ho
    obtain ⟨u, bs, h1, h0, h2⟩ := ho
    refine ⟨u, bs, by rw [(hmem c j hc).1, h1], h0, ?_⟩
    rw [rens_mapB]
    exact h2.imp (fun x v => told_ren (hback x v)) (fun _ _ => rfl) (fun _ _ _ _ => rfl)
   | mp P k es =>
    rw [hs] at ho
    obtain ⟨b, h1, h2⟩ := ho
    exact ⟨b, by rw [(hmem c j hc).1, h1], h2.imp rfl fun x v h => D.ok_mono (fun b o v hc hno => ⟨hc, fun h => hno (hforb' b o h)⟩) _ _ h⟩
  ·rw [(hnot j hc).2]
   refine (hst.inv.obs j).moves m (hnot j hc).1 (fun b hb => hi'.blks b (hst.inv.blk_lt hb) fun c h => ?_) rfl
   obtain ⟨j', hm, h⟩ := hblkc c b h
   have := hst.inv.inj j j' b hb h
   subst this
   exact hpsub j hc c hm
 ·have key : ∀ c i j, (c, i) ∈ pr ++ nw -> (∀ c, (c, j) ∉ pr ++ nw) -> blockOf β' s' c b -> blockOf β s j b -> False := by
   intro c i j hc hj h3 h4
   rcases hi'.ownB c b h3 with ⟨c', h5⟩ | h5
   ·obtain ⟨j', hm, h5⟩ := hblkc c' b h5
    have := hst.inv.inj j j' b h4 h5
    subst this
    exact hpsub j hj c' hm
   ·have := hst.inv.blk_lt h4
    exact absurd this (Nat.not_lt.2 h5)
  rcases hcase i with ⟨c, hc⟩ | hc <;> rcases hcase j with ⟨c', hc'⟩ | hc'
  ·have := hi'.inj c c' b ((hblk1 c i b hc).1 h1) ((hblk1 c' j b hc').1 h2)
   subst this
   have e1 := outρ_of_mem hn1 hc
   have e2 := outρ_of_mem hn1 hc'
   rw [e1] at e2
   cases e2; rfl
  ·exact (key c i j hc hc' ((hblk1 c i b hc).1 h1) ((hblk2 j b hc').1 h2)).elim
  ·exact (key c' j i hc' hc ((hblk1 c' j b hc').1 h2) ((hblk2 i b hc).1 h1)).elim
  ·exact hst.inv.inj i j b ((hblk2 i b hc).1 h1) ((hblk2 j b hc').1 h2)
theorem callK_S {P : Program} {k0 f : Nat} {args env : List AV} {s : Sto} {K : AV -> List AV -> Sto -> Prop} (h : callK P k0 f args env s K) : callS P k0 f args env s K := fun C β a w vs hC hst hvs => by
 subst hC
 exact (call_sound h hst hvs).mono fun e w' ⟨v, x, β', s', h1, h2, h3, h4⟩ => ⟨v, x, β', env, s', h1, h2, h3, h4⟩
theorem callS_mono {P : Program} {k0 f : Nat} {args env : List AV} {s : Sto} {K K' : AV -> List AV -> Sto -> Prop} (h : callS P k0 f args env s K) (hK : ∀ x env s, K x env s -> K' x env s) :
 callS P k0 f args env s K' := fun C β a w vs hC hst hvs => (h C β a w vs hC hst hvs).mono fun _ _ ⟨v, x, β', env', s', h1, h2, h3, h4⟩ => ⟨v, x, β', env', s', h1, h2, h3, hK _ _ _ h4⟩
theorem keys_len {α : Type} : ∀ (ks : List Lit) (E : List (Lit × α)), E.Pairwise (fun p q => p.1 ≠ q.1) -> (∀ p ∈ E, p.1 ∈ ks) -> E.length <= ks.length
 | [], E, _, h => by cases E with
  | nil => simp
  | cons p r => exact absurd (h p (by simp)) (by simp)
 | x :: ks, E, hp, hs => by
  have h1 := keys_len ks (E.filter fun p => !decide (p.1 = x)) (hp.filter _) fun p hp' => by
   have h2 := List.mem_filter.1 hp'
   have h3 := hs p h2.1
   simp only [List.mem_cons] at h3
   rcases h3 with h3 | h3
   ·simp [h3] at h2
   ·exact h3
  have h2 : ∀ (E : List (Lit × α)), E.Pairwise (fun p q => p.1 ≠ q.1) -> E.length <= (E.filter fun p => !decide (p.1 = x)).length + 1 := by
   intro E
   induction E with
   | nil => intro _; simp
   | cons p r ihr =>
    intro hp
    rw [List.pairwise_cons] at hp
    by_cases hx : p.1 = x
    ·have : r.filter (fun p => !decide (p.1 = x)) = r := List.filter_eq_self.2 fun q hq => by
      have := hp.1 q hq
      rw [hx] at this
      simpa using fun e => this e.symm
     rw [List.filter_cons]
     simp [hx, this]
    ·rw [List.filter_cons]
     have := ihr hp.2
     simp [hx]; omega
  have := h2 E hp
  simp only [List.length_cons]; omega
theorem MapOk.size {O : Own} {w : World} {P : Program} {k : Nat} {es : List (Lit × D)} {E : DataW Value} {b n : Nat} (K : Maps.Keyed P k) (h1 : w.ownsMap P k heldR b n E)
 (h2 : ∀ kl, match mget es kl with
  | none => Maps.has E kl = false
  | some x => ∃ v, (∀ z, E.atKey kl z = .held v) /\ one v = true /\ D.ok O w x v) : Maps.size E <= es.length := by
 have ht := h1.tidy K
 obtain ⟨es0, clock, hb, F, hn, hE⟩ := h1
 obtain ⟨ps, hps, hp⟩ := ht
 subst hE
 cases hps
 rw [Maps.size_eq]
 have := keys_len (es.map (·.1)) _ hp fun p hp' => ?_
 ·simpa using this
 ·have := h2 p.1
  cases hm : mget es p.1 with
  | some x => exact mget_mem hm
  | none =>
   rw [hm] at this
   rw [Maps.has_eq, List.any_eq_false] at this
   have h3 := this p hp'
   have h4 := Maps.fit_keys F p ((WideShapes.sorted_perm _).mem_iff.1 hp')
   obtain ⟨v, hv⟩ := h4
   rw [WideAt.sameKey_self (K.key hv)] at h3
   exact absurd rfl h3
theorem ownsMap_n {w : World} {P : Program} {k : Nat} {E : DataW Value} {b n : Nat} (h1 : w.ownsMap P k heldR b n E) : w.ownsMap P k heldR b (Maps.size E) E := by
 obtain ⟨es0, clock, hb, F, hn, rfl⟩ := h1
 exact ⟨es0, clock, hb, F, by simp [Maps.size, length_sorted], rfl⟩
theorem St.mapSet {C : Ctx} {β : Beta} {env : List AV} {s : Sto} {a : Act} {w w' : World} (h : St C β env s a w) {id b k : Nat} {P : Program} {es es' : List (Lit × D)} (hs : sat s id = .mp P k es) (hβ : β id = .blk b)
 (hg : w.grownBy w' (some b)) (hok : ∀ O, (∀ x v, D.ok (C.forb β s) w x v -> D.ok O w' x v) -> MapOk O w' P k es' b) : St C β env (sset s id (.mp P k es')) a w' := by
 obtain ⟨xs, c, hm⟩ : ∃ xs c, w.heap[b]? = some (.map xs c) := by
  have := h.inv.obs id
  rw [hs] at this
  obtain ⟨b', h1, h2⟩ := this
  rw [hβ] at h1
  cases h1
  exact h2.block
 have hblk : ∀ i b', blockOf β (sset s id (.mp P k es')) i b' ↔ blockOf β s i b' := fun i b' => by
  unfold blockOf
  rw [sat_sset]
  by_cases hi : i = id
  ·subst hi; rw [hs]; simp
  ·simp only [hi, if_false]
 have hown : ∀ b' o, own β (sset s id (.mp P k es')) b' o ↔ own β s b' o := fun b' o => by
  unfold own
  refine exists_congr fun i => ?_
  rw [sat_sset]
  by_cases hi : i = id
  ·subst hi; rw [hs]; simp
  ·simp only [hi, if_false]
 have hid : blockOf β s id b := by unfold blockOf; rw [hs]; exact hβ
 have m : Moves β s w β (sset s id (.mp P k es')) w' := by
  refine ⟨hg.size, by simp only [wio, hg.os, hg.tape, hg.output], fun b' o v hc _ => ?_, fun b' hb' hno => hg.block b' hb' fun e => ?_, fun b' o ho => .inl ((hown b' o).1 ho), fun i b' hb' => .inl ⟨i, (hblk i b').1 hb'⟩, fun _ => .refl _⟩
  ·rw [<- hc]
   refine World.cell?_of_block (hg.block b' (cell_lt hc) fun e => ?_)
   cases e
   simp only [World.cell?, hm] at hc
   cases hc
  ·cases e; exact hno id hid
 refine h.move m (fun i => ?_) fun i j b' hi hj => h.inv.inj i j b' ((hblk i b').1 hi) ((hblk j b').1 hj)
 rw [sat_sset]
 by_cases hi : i = id
 ·subst hi
  simp only [if_true]
  exact ⟨b, hβ, hok _ fun x v hx => D.ok_mono m.stays _ _ hx⟩
 ·simp only [hi, if_false]
  exact (h.inv.obs i).moves m rfl (fun b' hb' => hg.block b' (h.inv.blk_lt hb') fun e => by cases e; exact hi (h.inv.inj i id b hb' hid)) rfl
section
variable {P : Program} {C : Ctx} {o : Oper} {env : List AV} {s : Sto} {k : List AV -> Sto -> Prop}
theorem mapP_spec {t k0 e : Nat} (h : mapP P t = some (k0, e)) : P.underlying t = some (.map k0 e) := by
 unfold mapP at h
 split at h
 ·rename_i h2; cases h; exact h2
 ·cases h
theorem keyK_spec {k0 : Nat} {kd : Option IntKind} (h : keyK P k0 = some kd) : Maps.Keyed P k0 /\ ∀ v, keyOkL kd v -> keyOf P k0 v = some (litOf v) := by
 unfold keyK at h
 split at h
 ·rename_i hu
  cases h
  refine ⟨Maps.string_keyed hu, fun v hv => ?_⟩
  cases v <;> simp [keyOkL] at hv
  exact WideMaps.keyOf_string_mk hu hv
 ·rename_i q hu
  cases h
  refine ⟨Maps.int_keyed hu, fun v hv => ?_⟩
  cases v <;> simp [keyOkL] at hv
  obtain ⟨rfl, hv⟩ := hv
  exact Maps.keyOf_int_mk hu hv
 ·cases h
theorem mp_ok {β : Beta} {O : Own} {w : World} {id : Nat} {v : Value} (h : AV.ok β O w (.mp id) v) : ∃ b, β id = .blk b /\ v = .map (some b) := by simpa only [AV.ok] using h
theorem St.mapAt {β : Beta} {a : Act} {w : World} (h : St C β env s a w) {id k0 : Nat} {es : List (Lit × D)} (hs : sat s id = .mp P k0 es) {b : Nat} (hb : β id = .blk b) : MapOk (C.forb β s) w P k0 es b := by
 have := h.inv.obs id
 rw [hs] at this
 obtain ⟨b', h1, h2⟩ := this
 rw [hb] at h1
 cases h1
 exact h2
theorem s_mkmap {d t k0 e : Nat} (hop : o.op = .makeMap t none) (hk : newK C.k d env s fun env s _ => k (setD o.dst env (.mp d)) (sset s d (.mp P k0 []))) : OpWp P C o env s k := by
 refine .value fun β a w hst => ?_
 obtain ⟨β1, env1, s1, f, hst1, hd, hk1, hf, _⟩ := newK_sound hk hst
 obtain ⟨β2, hst2, m, hp⟩ := hst1.newMap hd P k0
 exact ⟨_, _, β2, env1, _, .mp d, by simp [execOp, hop, Instr.makeMap], hst2, hp, hk1⟩
theorem s_look {t k0 e : Nat} {kd : Option IntKind} {u : Value} {ok : Bool} {m x : Operand} (hop : o.op = .lookup t m x ok) (ht : mapP P t = some (k0, e)) (hkd : keyK P k0 = some kd) (hz : zeroV1 P e = some u)
 {id : Nat} {es : List (Lit × D)} {kv : Value} (hm : ev env m = .mp id) (hx : ev env x = .d (.lit kv)) (hs : sat s id = .mp P k0 es) (hkv : keyOkL kd kv)
 (hk : k (setD o.dst env (lookAV ok (cD u) (mget es (litOf kv)))) s) : OpWp P C o env s k := by
 refine .pure (fun β a w hst => ?_) hk
 have hu := mapP_spec ht
 obtain ⟨K, hkey⟩ := keyK_spec hkd
 have h1 := hst.ev m
 rw [hm] at h1
 obtain ⟨b, hb, h1⟩ := mp_ok h1
 have h2 := hst.ev x
 rw [hx] at h2
 have h2 := lit_ok h2
 obtain ⟨E, hE, hrel⟩ := hst.mapAt hs hb
 obtain ⟨i, hi, hzu, hru⟩ : ∃ i, P.info? e = some i /\ i.zero = some u /\ one u = true := by
  unfold zeroV1 at hz
  simp only [Option.bind_eq_some_iff] at hz
  obtain ⟨i, hi, u', hu', hz⟩ := hz
  split at hz
  ·rename_i h1; cases hz; exact ⟨i, hi, hu', h1⟩
  ·cases hz
 have hzr : (zeroValue e).run P w = .ok u w := by simp [zeroValue, typeInfo, hi, hzu]
 have hzok : one u = true /\ D.ok (C.forb β s) w (cD u) u := ⟨hru, cD_ok _ hru⟩
 have hrl := hrel (litOf kv)
 have main : ∃ v, one v = true /\ D.ok (C.forb β s) w ((mget es (litOf kv)).getD (cD u)) v /\ (Instr.lookup t (.map (some b)) kv ok).run P w = .ok (if ok then .tuple #[v, .bool (mget es (litOf kv)).isSome] else v) w := by
  cases hg : mget es (litOf kv) with
  | none =>
   rw [hg] at hrl
   refine ⟨u, hzok.1, hzok.2, ?_⟩
   cases ok with
   | true =>
    obtain ⟨v, ps, hrun, hv⟩ := hE.look_ok K hu hzr (zd := .held u) (zp := []) rfl (hkey kv hkv)
    rw [Maps.atKey_of_not_has hrl] at hv
    simp only [heldR, Option.some.injEq, Prod.mk.injEq, DataW.held.injEq] at hv
    rw [hrun, hv.1, hrl]; rfl
   | false =>
    obtain ⟨v, ps, hrun, hv⟩ := hE.lookup K hu hzr (zd := .held u) (zp := []) rfl (hkey kv hkv)
    rw [Maps.atKey_of_not_has hrl] at hv
    simp only [heldR, Option.some.injEq, Prod.mk.injEq, DataW.held.injEq] at hv
    rw [hrun, hv.1]; rfl
  | some y =>
   rw [hg] at hrl
   obtain ⟨v0, k1, k2, k3⟩ := hrl
   refine ⟨v0, k2, k3, ?_⟩
   cases ok with
   | true =>
    obtain ⟨v, ps, hrun, hv⟩ := hE.look_ok K hu hzr (zd := .held u) (zp := []) rfl (hkey kv hkv)
    rw [k1] at hv
    simp only [heldR, Option.some.injEq, Prod.mk.injEq, DataW.held.injEq] at hv
    rw [hrun, hv.1, Maps.has_true_of_atKey k1]; rfl
   | false =>
    obtain ⟨v, ps, hrun, hv⟩ := hE.lookup K hu hzr (zd := .held u) (zp := []) rfl (hkey kv hkv)
    rw [k1] at hv
    simp only [heldR, Option.some.injEq, Prod.mk.injEq, DataW.held.injEq] at hv
    rw [hrun, hv.1]; rfl
 obtain ⟨v, ho, hd, hrun⟩ := main
 refine ⟨if ok then .tuple #[v, .bool (mget es (litOf kv)).isSome] else v, by simp only [execOp, hop, h1, h2, Sem.run_bind, hrun, Result.andThen_ok, Sem.run_pure], ?_⟩
 cases ok with
 | true =>
  simp only [lookAV, if_true, AV.ok]
  exact ⟨_, rfl, by simp only [AV.oks, AV.ok]; exact ⟨_, _, rfl, hd, _, _, rfl, by simp [D.ok, one], rfl⟩⟩
 | false => simpa [lookAV, AV.ok] using hd
theorem isAgg_one {O : Own} {w : World} {d : D} {v : Value} (h : isAggD d = false) (h1 : D.ok O w d v) : one v = true := by
 cases d with
 | any => exact h1
 | lit u => obtain ⟨rfl, h2⟩ := (by simpa only [D.ok] using h1 : v = u /\ one u = true); exact h2
 | sl e nl xs => simp only [D.ok] at h1; obtain ⟨a, cap, rfl, _⟩ := h1; rfl
 | agg cs => cases h
theorem s_mput {t k0 e : Nat} {kd : Option IntKind} {m x v : Operand} (hop : o.op = .mapUpdate t m x v) (ht : mapP P t = some (k0, e)) (hkd : keyK P k0 = some kd)
 {id : Nat} {es : List (Lit × D)} {kv : Value} {d : D} (hm : ev env m = .mp id) (hx : ev env x = .d (.lit kv)) (hv : (ev env v).fin = some d) (hs : sat s id = .mp P k0 es) (hkv : keyOkL kd kv) (hl : es.length < 2 ^ 40) (hag : isAggD d = false)
 (hk : k (setD o.dst env .junk) (sset s id (.mp P k0 ((litOf kv, d) :: es)))) : OpWp P C o env s k := by
 refine .skip fun β a w hst => ?_
 have hu := mapP_spec ht
 obtain ⟨K, hkey⟩ := keyK_spec hkd
 have h1 := hst.ev m
 rw [hm] at h1
 obtain ⟨b, hb, h1⟩ := mp_ok h1
 have h2 := hst.ev x
 rw [hx] at h2
 have h2 := lit_ok h2
 have h3 := fin_ok (hst.ev v) hv
 have h4 : one (a.eval v) = true := isAgg_one hag h3
 obtain ⟨E, hE, hrel⟩ := hst.mapAt hs hb
 have hsz := MapOk.size K hE hrel
 obtain ⟨w', hrun, hE', hg⟩ := hE.update K hu (by unfold maxLen; omega) (key := kv) (val := a.eval v) (d := .held (a.eval v)) (ps := []) (hkey kv hkv) rfl
 have hst' := hst.mapSet hs hb hg (es' := (litOf kv, d) :: es) fun O hO => ⟨_, ownsMap_n hE', fun kl => by
  by_cases hkl : kl = litOf kv
  ·subst hkl
   simp only [mget, if_true]
   exact ⟨a.eval v, fun z => Maps.atKey_put_same hE.isMap (K.key (hkey kv hkv)) _ _, h4, hO _ _ h3⟩
  ·have hne : ¬ litOf kv = kl := fun e => hkl e.symm
   simp only [mget, hne, if_false]
   have := hrel kl
   cases hg : mget es kl with
   | none => rw [hg] at this; simp only; rw [Maps.has_put_other hkl]; exact this
   | some y =>
    rw [hg] at this
    obtain ⟨v0, k1, k2, k3⟩ := this
    exact ⟨v0, fun z => by rw [Maps.atKey_put_other hkl]; exact k1 z, k2, hO _ _ k3⟩⟩
 exact ⟨w', β, env, _, by simp only [execOp, hop, h1, h2, Sem.run_bind, hrun, Result.andThen_ok, Sem.run_pure], hst', hk⟩
theorem s_mdel {c : Call} (hop : o.op = .call c) (hc : c.callee = .builtin .delete) {m x : Operand} (ha : c.args = #[m, x]) {t k0 e : Nat} (hat : c.argTypes = #[t, k0]) {kd : Option IntKind} (ht : mapP P t = some (k0, e)) (hkd : keyK P k0 = some kd)
 {id : Nat} {es : List (Lit × D)} {kv : Value} (hm : ev env m = .mp id) (hx : ev env x = .d (.lit kv)) (hs : sat s id = .mp P k0 es) (hkv : keyOkL kd kv)
 (hk : k (setD o.dst env (.tup [])) (sset s id (.mp P k0 (mdel (litOf kv) es)))) : OpWp P C o env s k := by
 refine .value fun β a w hst => ?_
 have hu := mapP_spec ht
 obtain ⟨K, hkey⟩ := keyK_spec hkd
 have h1 := hst.ev m
 rw [hm] at h1
 obtain ⟨b, hb, h1⟩ := mp_ok h1
 have h2 := hst.ev x
 rw [hx] at h2
 have h2 := lit_ok h2
 obtain ⟨E, hE, hrel⟩ := hst.mapAt hs hb
 obtain ⟨w', hrun, hE', hg⟩ := hE.drop K hu (key := kv) (hkey kv hkv) 0
 have hst' := hst.mapSet hs hb hg.grown (es' := mdel (litOf kv) es) fun O hO => ⟨_, ownsMap_n hE', fun kl => by
  rw [mget_mdel]
  by_cases hkl : kl = litOf kv
  ·subst hkl
   simp only [if_true]
   exact Maps.has_del_same
  ·simp only [hkl, if_false]
   have := hrel kl
   cases hg : mget es kl with
   | none => rw [hg] at this; simp only; rw [Maps.has_del_other hkl]; exact this
   | some y =>
    rw [hg] at this
    obtain ⟨v0, k1, k2, k3⟩ := this
    exact ⟨v0, fun z => by rw [Maps.atKey_del_other hkl]; exact k1 z, k2, hO _ _ k3⟩⟩
 have hty : ∀ ty, Builtin.delete_ #[t, k0] ty #[.map (some b), kv] = Builtin.delete_ #[t, k0] 0 #[.map (some b), kv] := fun _ => rfl
 exact ⟨.tuple #[], w', β, env, _, .tup [], by simp [execOp, hop, resolve, hc, ha, hat, invoke, builtin, h1, h2, hty, hrun], hst', by simp [AV.ok, AV.oks], hk⟩
end
section
variable {P : Program} {C : Ctx} {o : Oper} {env : List AV} {s : Sto} {k : List AV -> Sto -> Prop}
theorem enters_spec {f : Nat} (h : enters P f = true) (vs : Array Value) (w : World) : (callFunc f vs).run P w = .ok (.enter f vs) w := by
 unfold enters at h
 split at h
 ·rename_i fn hf
  simp only [Bool.and_eq_true, Bool.not_eq_true'] at h
  obtain ⟨h1, h2⟩ := h
  have h3 : fn.body.isNone = false := by cases hb : fn.body <;> simp_all
  simp only [callFunc, Sem.run_bind, run_program, Result.andThen_ok, hf]
  rw [if_neg (by rw [h1]; simp), if_neg (by rw [h3]; simp)]
  rfl
 ·cases h
theorem callsIn_ro {C : Ctx} {n : Nat} {P : Program} {f : FuncId} {args : Array Value} {w : World} {R : Ending -> World -> Prop} : CallsIn C.fence n P f args w R ↔ Calls P f args w R :=
 callsIn_wide (n := n)
theorem s_call {c : Call} (hop : o.op = .call c) {g : Operand} (hc : c.callee = .value g) {f : Nat} {first cap : List AV} (hg : ev env g = .fn f first cap) (he : enters P f = true)
 (hk : callS P C.k f (first ++ c.args.toList.map (ev env) ++ cap) env s fun x env s => k (setD o.dst env x) s) : OpWp P C o env s k := by
 intro hnd Q β a w hst
 have hgv := hst.ev g
 rw [hg] at hgv
 simp only [AV.ok] at hgv
 obtain ⟨fs, cs, h1, h2, h3⟩ := hgv
 have hargs : AV.oks β (C.forb β s) w (first ++ c.args.toList.map (ev env) ++ cap) (fs ++ c.args.map a.eval ++ cs).toList := by
  simp only [Array.toList_append, Array.toList_map]
  exact oks_append (oks_append h2 (evs_ok hst c.args.toList)) h3
 have hrun : (execOp a.eval o).run P w = .ok (.enter f (fs ++ c.args.map a.eval ++ cs)) w := by
  simp only [execOp, hop, resolve, hc, h1, Deferred.ofValue, Sem.run_bind, Sem.run_pure, Result.andThen_ok, invoke]
  exact enters_spec he _ _
 refine ⟨fun _ _ => trivial, ?_⟩
 rw [Oper.semAt_eq _ _ _ hnd, hrun, Oper.uponIn_enter]
 refine ⟨fun h => by simp [Ctx.fence] at h, callsIn_ro.2 ((hk C β a w _ rfl hst hargs).mono ?_)⟩
 rintro e w' ⟨v, x, β', env', s', rfl, hst', hx, hk'⟩
 exact ⟨β', _, s', hst'.put hx o.dst, hk'⟩
theorem vop_sound0 {m : MOp} (hm : miniOp P o = some m) (hk : vop P C.k m env s fun x env s => k (setD o.dst env x) s) : OpWp P C o env s k := by
 unfold miniOp at hm
 split at hm
 -- move
 ·rename_i x hop; cases hm; exact s_mv (.inl hop) hk
 ·rename_i x hop; cases hm; exact s_mv (.inr hop) hk
 -- pick
 ·rename_i c x y hop
  cases hm
  simp only [vop] at hk
  split at hk
  ·rename_i t ht; exact s_pick hop ht hk
  ·exact hk.elim
 -- alloc
 ·rename_i t hop
  simp only [Option.bind_eq_some_iff, Option.map_eq_some_iff] at hm
  obtain ⟨d, hd, z, hz, rfl⟩ := hm
  exact s_alloc hop hz hk
 -- box
 ·rename_i t x hop
  simp only [Option.map_eq_some_iff] at hm
  obtain ⟨d, hd, rfl⟩ := hm
  simp only [vop] at hk
  split at hk
  ·rename_i cs hc; exact s_box hop hc hk
  ·exact hk.elim
 -- build
 ·rename_i t ps hop
  split at hm
  ·rename_i fs hu
   simp only [Option.bind_eq_some_iff] at hm
   obtain ⟨z, hz, hm⟩ := hm
   split at hm
   ·rename_i hall
    simp only [Option.map_eq_some_iff] at hm
    obtain ⟨qs, hq, rfl⟩ := hm
    simp only [vop] at hk
    split at hk
    ·rename_i cs hc
     exact s_build hop hu hz (fun f hf => by simpa using List.all_eq_true.1 hall f hf) hq hc hk
    ·exact hk.elim
   ·cases hm
  ·rename_i n e hu
   split at hm
   ·rename_i hps
    simp only [Option.bind_eq_some_iff, Option.map_eq_some_iff] at hm
    obtain ⟨q, hq, z, hz, rfl⟩ := hm
    simp only [vop, putParts] at hk
    exact s_buildA hop hu hz (by simpa using hps) hq hk
   ·cases hm
  ·cases hm
 -- buildSlice
 ·rename_i t n ps hop
  simp only [Option.bind_eq_some_iff] at hm
  obtain ⟨d, hd, e, he, sz, hsz, z, hz, hm⟩ := hm
  split at hm
  ·rename_i hcond
   simp only [Option.map_eq_some_iff] at hm
   obtain ⟨xs, hxs, rfl⟩ := hm
   simp only [vop] at hk
   split at hk
   ·rename_i ds hds
    exact s_bsl hop (elemP_spec he) hsz hz hcond.1 hcond.2 hxs hds hk.1 hk.2
   ·exact hk.elim
  ·cases hm
 -- load
 ·rename_i t p hop
  simp only [Option.bind_eq_some_iff, Option.map_eq_some_iff] at hm
  obtain ⟨n, hn, ag, hg, rfl⟩ := hm
  exact s_load hop hn hg hk
 -- store
 ·rename_i t p x hop
  simp only [Option.map_eq_some_iff] at hm
  obtain ⟨n, hn, rfl⟩ := hm
  exact s_store hop hn hk
 -- nilCheck
 ·rename_i x hop
  cases hm
  simp only [vop] at hk
  split at hk
  ·rename_i id off hx; exact s_nilc hop hx (.inl ⟨id, off, rfl⟩) hk
  ·rename_i cs hx; exact s_nilc hop hx (.inr (.inl ⟨cs, rfl⟩)) hk
  ·rename_i f a b hx; exact s_nilc hop hx (.inr (.inr (.inl ⟨f, a, b, rfl⟩))) hk
  ·rename_i id m off hx; exact s_nilc hop hx (.inr (.inr (.inr ⟨id, m, off, rfl⟩))) hk
  ·exact hk.elim
 -- binOp
 ·rename_i op t x y t' hop
  split at hm
  ·cases hm; exact s_bin hop hk
  ·cases hm; exact s_bin hop hk
  ·rename_i hu
   split at hm
   ·cases hm
    simp only [vop] at hk
    split at hk
    ·rename_i p q hx hy; exact s_binb hop hu (.inl ⟨rfl, rfl⟩) hx hy hk
    ·exact hk.elim
   ·cases hm
    simp only [vop] at hk
    split at hk
    ·rename_i p q hx hy; exact s_binb hop hu (.inr ⟨rfl, rfl⟩) hx hy hk
    ·exact hk.elim
   ·cases hm
  ·rename_i e hu
   split at hm
   ·rename_i hy
    split at hm
    ·cases hm
     simp only [vop] at hk
     split at hk
     ·rename_i b hx; exact s_eqnil hop hu hy (.inl ⟨rfl, rfl⟩) hx hk
     ·split at hk
      ·rename_i e' xs hx; exact s_eqnilU hop hu hy (.inl ⟨rfl, rfl⟩) hx hk.1 hk.2
      ·exact hk.elim
    ·cases hm
     simp only [vop] at hk
     split at hk
     ·rename_i b hx; exact s_eqnil hop hu hy (.inr ⟨rfl, rfl⟩) hx hk
     ·split at hk
      ·rename_i e' xs hx; exact s_eqnilU hop hu hy (.inr ⟨rfl, rfl⟩) hx hk.1 hk.2
      ·exact hk.elim
    ·cases hm
   ·cases hm
  ·cases hm
 -- unOp
 ·rename_i op t x hop
  cases hm
  simp only [vop] at hk
  split at hk
  ·rename_i b hx; exact s_not hop hx hk
  ·rename_i j n hx; exact s_neg hop hx hk
  ·exact hk.elim
 -- convert
 ·rename_i a b x hop
  split at hm
  ·rename_i j j' ha hb
   cases hm
   simp only [vop] at hk
   split at hk
   ·rename_i j0 n hx; exact s_conv hop ⟨j, ha⟩ hb hx hk
   ·exact hk.elim
  ·cases hm
 -- makeFunc
 ·rename_i f first cap hop
  cases hm
  exact s_mkfn hop hk
 -- makeSlice
 ·rename_i t l c hop
  simp only [Option.bind_eq_some_iff] at hm
  obtain ⟨d, hd, e, he, sz, hsz, by', hby, z, hz, hm⟩ := hm
  split at hm
  ·rename_i hsz0
   split at hm
   ·rename_i hz0
    cases hm
    simp only [vop] at hk
    split at hk
    ·rename_i l' c' hl hc
     exact s_mksl hop (elemP_spec he) hsz hby hz hsz0 (tok := true) (.inl ⟨rfl, hz0⟩) hl hc hk.1 hk.2.1 hk.2.2.1 hk.2.2.2.1 (by simpa using hk.2.2.2.2)
    ·exact hk.elim
   ·split at hm
    ·rename_i hsame
     cases hm
     simp only [vop] at hk
     split at hk
     ·rename_i l' c' hl hc
      exact s_mksl hop (elemP_spec he) hsz hby hz hsz0 (tok := false) (.inr ⟨rfl, hsame⟩) hl hc hk.1 hk.2.1 hk.2.2.1 hk.2.2.2.1 (by simpa using hk.2.2.2.2)
     ·exact hk.elim
    ·cases hm
  ·cases hm
 -- slice
 ·rename_i t x lo hi mx hop
  split at hm
  ·rename_i e hu
   simp only [Option.map_eq_some_iff] at hm
   obtain ⟨sz, hsz, rfl⟩ := hm
   simp only [vop] at hk
   split at hk
   ·rename_i e' xs hxs
    cases mx with
    | none => exact s_slc hop hu hsz hxs hk.1 hk.2
    | some m =>
     obtain ⟨rfl, hh, h, rfl, h1, h2, h3, h4, h5, h6⟩ := hk
     exact s_slc3 hop hu hsz hxs h1 h2 h4 h5 h6
   ·exact hk.elim
  ·rename_i n e hu
   split at hm
   case isFalse => cases hm
   rename_i hn62
   simp only [Option.map_eq_some_iff] at hm
   obtain ⟨sz, hsz, rfl⟩ := hm
   simp only [vop] at hk
   split at hk
   ·rename_i id off hx
    exact s_slcA hn62 hop hu hsz hx (h := n) (by simp [bnd]) (by omega) (by omega) (by simpa using hk)
   ·rename_i id off h hx
    split at hk
    ·rename_i h' hh
     exact s_slcA hn62 hop hu hsz hx (h := h') (by simpa [bnd] using hh) hk.1 hk.2.1 hk.2.2
    ·exact hk.elim
   ·exact hk.elim
  ·rename_i hu
   cases mx with
   | some m => cases hm
   | none =>
    cases hm
    simp only [vop] at hk
    split at hk
    ·rename_i b hx
     split at hk
     ·rename_i l h hl hh
      exact s_sls hop hu hx hl hh hk.1 hk.2.1 hk.2.2.1 hk.2.2.2
     ·exact hk.elim
    ·exact hk.elim
  ·cases hm
 -- fieldAddr
 ·rename_i t p f hop
  split at hm
  ·rename_i fs hu
   simp only [Option.bind_eq_some_iff] at hm
   obtain ⟨fd, hf, n, hn, hm⟩ := hm
   split at hm
   ·cases hm
   ·rename_i h0
    cases hm
    simp only [vop] at hk
    split at hk
    ·rename_i id off hx; exact s_fad hop hu hf hn h0 (.inl ⟨id, off, hx, rfl⟩) hk
    ·rename_i cs hx; exact s_fad hop hu hf hn h0 (.inr (.inl ⟨cs, hx, rfl⟩)) hk
    ·rename_i id m off hx; exact s_fad hop hu hf hn h0 (.inr (.inr ⟨id, m, off, hx, rfl⟩)) hk
    ·exact hk.elim
  ·cases hm
 -- field
 ·rename_i t x f hop
  split at hm
  ·rename_i fs hu
   simp only [Option.bind_eq_some_iff, Option.map_eq_some_iff] at hm
   obtain ⟨fd, hf, n, hn, ag, hg, rfl⟩ := hm
   simp only [vop] at hk
   split at hk
   ·rename_i cs hc; exact s_fld hop hu hf hn hg hc hk.1 hk.2
   ·exact hk.elim
  ·cases hm
 -- indexAddr
 ·rename_i t x i hop
  split at hm
  ·rename_i e hu
   simp only [Option.map_eq_some_iff] at hm
   obtain ⟨sz, hsz, rfl⟩ := hm
   exact s_ixa hop hu hsz hk
  ·rename_i n e hu
   simp only [Option.map_eq_some_iff] at hm
   obtain ⟨sz, hsz, rfl⟩ := hm
   simp only [vop] at hk
   split at hk
   ·rename_i j id off hj hx; exact s_ixaA hop hu hsz hj hk.1 hk.2.1 (.inl ⟨id, off, hx, rfl⟩) hk.2.2
   ·rename_i j cs hj hx; exact s_ixaA hop hu hsz hj hk.1 hk.2.1 (.inr ⟨cs, hx, rfl⟩) hk.2.2
   ·exact hk.elim
  ·cases hm
 -- extract
 ·rename_i x i hop
  cases hm
  simp only [vop] at hk
  split at hk
  ·rename_i cs hx; exact s_ext hop hx hk.1 hk.2
  ·exact hk.elim
 -- call
 ·rename_i c hop
  split at hm
  ·rename_i f hc
   split at hm
   ·rename_i he
    cases hm
    simp only [vop] at hk
    exact s_call hop hc (f := f) (first := []) (cap := []) (by simp [ev]) he (by simpa using hk)
   ·cases hm
  ·rename_i g hc
   cases hm
   simp only [vop] at hk
   split at hk
   ·rename_i f first cap hg; exact s_call hop hc hg hk.1 hk.2
   ·exact hk.elim
  ·rename_i hc
   split at hm
   ·rename_i e x ht ha
    cases hm
    simp only [Option.bind_eq_some_iff] at ht
    obtain ⟨t, ht, hu⟩ := ht
    have ha' : c.args = #[x] := by apply Array.ext'; simpa using ha
    simp only [vop] at hk
    split at hk
    ·rename_i e' id off n hx
     refine s_len hop hc ha' ht hu (n := n) (fun β w v hv => ?_) hk
     rw [hx] at hv
     simp only [AV.ok] at hv
     obtain ⟨b, cap, _, _, hv⟩ := hv
     exact ⟨_, cap, hv⟩
    ·rename_i e' id n hx
     refine s_len hop hc ha' ht hu (n := n) (fun β w v hv => ?_) hk
     rw [hx] at hv
     simp only [AV.ok] at hv
     obtain ⟨u, m, _, _, _, ⟨_, hv, rfl⟩ | ⟨b, cap, hv, _⟩⟩ := hv
     ·exact ⟨_, 0, hv⟩
     ·exact ⟨_, cap, hv⟩
    ·split at hk
     ·rename_i e' xs hxs
      refine s_len hop hc ha' ht hu (n := xs.length) (fun β w v hv => ?_) hk
      obtain ⟨a, cap, hv, _⟩ := slK_ok hv hxs
      exact ⟨a, cap, hv⟩
     ·exact hk.elim
   ·rename_i x ht ha
    cases hm
    simp only [Option.bind_eq_some_iff] at ht
    obtain ⟨t, ht, hu⟩ := ht
    have ha' : c.args = #[x] := by apply Array.ext'; simpa using ha
    simp only [vop] at hk
    split at hk
    ·rename_i b hx; exact s_lens hop hc ha' ht hu hx hk
    ·exact hk.elim
   ·cases hm
  ·rename_i hc
   split at hm
   ·rename_i x y t u ha hat hau
    simp only [Option.bind_eq_some_iff] at hm
    obtain ⟨d, hd, e, he, e2, he2, sz, hsz, by', hby, z, hz, hm⟩ := hm
    split at hm
    ·rename_i hcond
     cases hm
     have ha' : c.args = #[x, y] := by apply Array.ext'; simpa using ha
     exact s_app hop hc ha' hat hau (elemP_spec he) (elemP_spec he2) hsz hby hz hcond.1 hcond.2 hk
    ·cases hm
   ·cases hm
  ·rename_i hc
   split at hm
   ·rename_i x y ha
    cases hm
    have ha' : c.args = #[x, y] := by apply Array.ext'; simpa using ha
    simp only [vop] at hk
    split at hk
    ·rename_i j n j' n' hx hy
     obtain ⟨rfl, hk⟩ := hk
     exact s_max hop hc ha' hx hy hk
    ·exact hk.elim
   ·cases hm
  ·rename_i hc
   split at hm
   ·rename_i x y ha
    cases hm
    have ha' : c.args = #[x, y] := by apply Array.ext'; simpa using ha
    simp only [vop] at hk
    split at hk
    ·rename_i j n j' n' hx hy
     obtain ⟨rfl, hk⟩ := hk
     exact s_min hop hc ha' hx hy hk
    ·exact hk.elim
   ·cases hm
  ·rename_i hc
   split at hm
   ·rename_i x y t kt ha hat
    have ha' : c.args = #[x, y] := by apply Array.ext'; simpa using ha
    have hat' : c.argTypes = #[t, kt] := by apply Array.ext'; simpa using hat
    simp only [Option.bind_eq_some_iff] at hm
    obtain ⟨⟨k0, e⟩, ht, kd, hkd, hm⟩ := hm
    split at hm
    ·rename_i hk0
     simp only at hk0
     subst hk0
     cases hm
     simp only [vop] at hk
     split at hk
     ·rename_i id kv hx hy
      split at hk
      ·rename_i P' k' es hs
       obtain ⟨rfl, rfl, hkv, hk⟩ := hk
       exact s_mdel hop hc ha' hat' ht hkd hx hy hs hkv hk
      ·exact hk.elim
     ·exact hk.elim
    ·cases hm
   ·cases hm
  ·cases hm
 -- index
 ·rename_i t x i hop
  split at hm
  ·rename_i hu
   cases hm
   simp only [vop] at hk
   split at hk
   ·rename_i b kk n hx hi
    exact s_ixs hop hu hx hi hk.1 hk.2.1 hk.2.2
   ·exact hk.elim
  ·cases hm
 -- maps
 ·rename_i t hop
  simp only [Option.bind_eq_some_iff, Option.map_eq_some_iff] at hm
  obtain ⟨d, hd, ⟨k0, e⟩, ht, rfl⟩ := hm
  exact s_mkmap hop (e := e) hk
 ·rename_i t m x ok hop
  simp only [Option.bind_eq_some_iff, Option.map_eq_some_iff] at hm
  obtain ⟨⟨k0, e⟩, ht, kd, hkd, u, hu, rfl⟩ := hm
  simp only [vop] at hk
  split at hk
  ·rename_i id kv hx hy
   split at hk
   ·rename_i P' k' es hs
    obtain ⟨rfl, rfl, hkv, hk⟩ := hk
    exact s_look hop ht hkd hu hx hy hs hkv hk
   ·exact hk.elim
  ·exact hk.elim
 ·rename_i t m x v hop
  simp only [Option.bind_eq_some_iff, Option.map_eq_some_iff] at hm
  obtain ⟨⟨k0, e⟩, ht, kd, hkd, rfl⟩ := hm
  simp only [vop] at hk
  split at hk
  ·rename_i id kv d hx hy hv
   split at hk
   ·rename_i P' k' es hs
    obtain ⟨rfl, rfl, hkv, hl, hag, hk⟩ := hk
    exact s_mput hop ht hkd hx hy hv hs hkv hl hag hk
   ·exact hk.elim
  ·exact hk.elim
 ·cases hm
theorem mini_bsl {id t e : Nat} {xs : List Operand} (hm : miniOp P o = some (.bsl id t e xs)) : ∃ t' n ps, o.op = .buildSlice t' n ps := by
 unfold miniOp at hm
 split at hm
 case h_7 t' n ps hop => exact ⟨_, _, _, hop⟩
 all_goals exfalso
 all_goals repeat (first
  | (cases hm; done)
  | (simp only [Option.bind_eq_some_iff, Option.map_eq_some_iff] at hm)
  | (obtain ⟨_, _, hm⟩ := hm)
  | split at hm)
theorem mini_box {id t : Nat} {x : Operand} (hm : miniOp P o = some (.box id t x)) : o.op = .box t x := by
 unfold miniOp at hm
 split at hm
 case h_5 t' x' hop =>
  simp only [Option.map_eq_some_iff] at hm
  obtain ⟨d, hd, hm⟩ := hm
  cases hm; exact hop
 all_goals exfalso
 all_goals repeat (first
  | (cases hm; done)
  | (simp only [Option.bind_eq_some_iff, Option.map_eq_some_iff] at hm)
  | (obtain ⟨_, _, hm⟩ := hm)
  | split at hm)
theorem mini_mksl {id t e b : Nat} {z : List D} {tok : Bool} {l c : Operand} (hm : miniOp P o = some (.mksl id t e b z tok l c)) : ∃ t', o.op = .makeSlice t' l c := by
 unfold miniOp at hm
 split at hm
 case h_15 t' l' c' hop =>
  simp only [Option.bind_eq_some_iff] at hm
  obtain ⟨d, hd, e', he, sz, hsz, by', hby, z', hz, hm⟩ := hm
  split at hm
  ·split at hm
   ·cases hm; exact ⟨_, hop⟩
   ·split at hm
    ·cases hm; exact ⟨_, hop⟩
    ·cases hm
  ·cases hm
 all_goals exfalso
 all_goals repeat (first
  | (cases hm; done)
  | (simp only [Option.bind_eq_some_iff, Option.map_eq_some_iff] at hm)
  | (obtain ⟨_, _, hm⟩ := hm)
  | split at hm)
theorem mini_app {id t e b : Nat} {x y : Operand} (hm : miniOp P o = some (.app id t e b x y)) : ∃ c, o.op = .call c /\ c.callee = .builtin .append := by
 unfold miniOp at hm
 split at hm
 case h_21 c hop =>
  refine ⟨c, hop, ?_⟩
  split at hm
  case h_4 hc => exact hc
  all_goals exfalso
  all_goals repeat (first
   | (cases hm; done)
   | (simp only [Option.bind_eq_some_iff, Option.map_eq_some_iff] at hm)
   | (obtain ⟨_, _, hm⟩ := hm)
   | split at hm)
 all_goals exfalso
 all_goals repeat (first
  | (cases hm; done)
  | (simp only [Option.bind_eq_some_iff, Option.map_eq_some_iff] at hm)
  | (obtain ⟨_, _, hm⟩ := hm)
  | split at hm)
theorem vop_sound {m : MOp} (hm : miniOp P o = some m.erase) (hk : vop P C.k m env s fun x env s => k (setD o.dst env x) s) : OpWp P C o env s k := by
 cases m with
 | boxi id d t x =>
  simp only [MOp.erase] at hm
  have hop := mini_box hm
  simp only [vop] at hk
  split at hk
  ·rename_i cs hc; exact s_boxi hop hc hk
  ·exact hk.elim
 | mkslp id t e b z tok l c =>
  simp only [MOp.erase] at hm
  obtain ⟨t', hop⟩ := mini_mksl hm
  unfold miniOp at hm
  rw [hop] at hm
  simp only [Option.bind_eq_some_iff] at hm
  obtain ⟨d, hd, e', he, sz, hsz, by', hby, z', hz, hm⟩ := hm
  simp only [vop] at hk
  split at hk
  case h_2 => exact hk.elim
  rename_i l' c' hl hc
  obtain ⟨rfl, he0, h0, h1, h2, h3, h4, h5, hk⟩ := hk
  split at hm
  ·split at hm
   ·cases hm
   ·split at hm
    ·rename_i hsame
     cases hm
     exact s_mkslp hop (elemP_spec he) hsz hby hz hsame hl hc h0 h1 h2 h3 hd he0 h4 h5 hk
    ·cases hm
  ·cases hm
 | mksld id t e b z tok l c =>
  simp only [MOp.erase] at hm
  obtain ⟨t', hop⟩ := mini_mksl hm
  unfold miniOp at hm
  rw [hop] at hm
  simp only [Option.bind_eq_some_iff] at hm
  obtain ⟨d, hd, e', he, sz, hsz, by', hby, z', hz, hm⟩ := hm
  simp only [vop] at hk
  split at hk
  case h_2 => exact hk.elim
  rename_i l' c' zd hl hc
  obtain ⟨rfl, rfl, h0, h1, h2, h3, hk⟩ := hk
  split at hm
  ·split at hm
   ·cases hm
   ·split at hm
    ·rename_i hsame
     cases hm
     exact s_mksld hop (elemP_spec he) hsz hby hz hsame hl hc h0 h1 h2 h3 hk
    ·cases hm
  ·cases hm
 | bslo id t e xs =>
  simp only [MOp.erase] at hm
  obtain ⟨t', n, ps, hop⟩ := mini_bsl hm
  unfold miniOp at hm
  rw [hop] at hm
  simp only [Option.bind_eq_some_iff] at hm
  obtain ⟨d, hd, e', he, sz, hsz, z, hz, hm⟩ := hm
  split at hm
  ·rename_i hcond
   simp only [Option.map_eq_some_iff, MOp.bsl.injEq] at hm
   obtain ⟨ys, hxs, rfl, rfl, rfl, rfl⟩ := hm
   simp only [vop] at hk
   split at hk
   ·rename_i cs hcs
    exact s_bslo hop (elemP_spec he) hsz hz hcond.1 hcond.2 hxs hcs hk
   ·exact hk.elim
  ·cases hm
 | bslg id t e xs =>
  simp only [MOp.erase] at hm
  obtain ⟨t', n, ps, hop⟩ := mini_bsl hm
  unfold miniOp at hm
  rw [hop] at hm
  simp only [Option.bind_eq_some_iff] at hm
  obtain ⟨d, hd, e', he, sz, hsz, z, hz, hm⟩ := hm
  split at hm
  ·rename_i hcond
   simp only [Option.map_eq_some_iff, MOp.bsl.injEq] at hm
   obtain ⟨ys, hxs, rfl, rfl, rfl, rfl⟩ := hm
   simp only [vop] at hk
   split at hk
   ·rename_i ds hds
    exact s_bslg hop (elemP_spec he) hsz hz hcond.1 hcond.2 hxs hds hk.1 hk.2
   ·exact hk.elim
  ·cases hm
 | bsln id t e xs =>
  simp only [MOp.erase] at hm
  obtain ⟨t', n, ps, hop⟩ := mini_bsl hm
  unfold miniOp at hm
  rw [hop] at hm
  simp only [Option.bind_eq_some_iff] at hm
  obtain ⟨d, hd, e', he, sz, hsz, z, hz, hm⟩ := hm
  split at hm
  ·rename_i hcond
   simp only [Option.map_eq_some_iff, MOp.bsl.injEq] at hm
   obtain ⟨ys, hxs, rfl, rfl, rfl, rfl⟩ := hm
   simp only [vop, bslnK] at hk
   split at hk
   ·rename_i ds cs hds hcs
    exact s_bsln hop (elemP_spec he) hsz hz hcond.1 hcond.2 hxs hds hk.1 hcs hk.2.1 hk.2.2
   ·exact hk.elim
  ·cases hm
 | appg id t e b x y =>
  simp only [MOp.erase] at hm
  obtain ⟨c, hop, hc⟩ := mini_app hm
  unfold miniOp at hm
  rw [hop] at hm
  simp only [hc] at hm
  split at hm
  ·rename_i x y t u ha hat hau
   simp only [Option.bind_eq_some_iff] at hm
   obtain ⟨d, hd, e, he, e2, he2, sz, hsz, by', hby, z, hz, hm⟩ := hm
   split at hm
   ·rename_i hcond
    cases hm
    have ha' : c.args = #[x, y] := by apply Array.ext'; simpa using ha
    exact s_appg hop hc ha' hat hau (elemP_spec he) (elemP_spec he2) hsz hby hz hcond.1 hcond.2 hk
   ·cases hm
  ·cases hm
 | appn id t e b x y =>
  simp only [MOp.erase] at hm
  obtain ⟨c, hop, hc⟩ := mini_app hm
  unfold miniOp at hm
  rw [hop] at hm
  simp only [hc] at hm
  split at hm
  ·rename_i x y t u ha hat hau
   simp only [Option.bind_eq_some_iff] at hm
   obtain ⟨d, hd, e, he, e2, he2, sz, hsz, by', hby, z, hz, hm⟩ := hm
   split at hm
   ·rename_i hcond
    cases hm
    have ha' : c.args = #[x, y] := by apply Array.ext'; simpa using ha
    exact s_appn hop hc ha' hat hau (elemP_spec he) (elemP_spec he2) hsz hby hz hcond.1 hcond.2 hk
   ·cases hm
  ·cases hm
 | _ => exact vop_sound0 hm hk
end
end Abx
