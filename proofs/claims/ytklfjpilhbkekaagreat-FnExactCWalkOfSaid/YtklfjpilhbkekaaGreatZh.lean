/- Functions of the program and the equations that they compute, conditional systems, the program; nothing is assumed. -/
import Derived.Test.YtklfjpilhbkekaaGreatZg
import Derived.Test.YtklfjpilhbkekaaGreatZe
set_option linter.all false
noncomputable section
namespace Go.Proofs.YtklfjpilhbkekaaGreat
open Go Abx
attribute [local irreducible] vcm vgo vdr q3o q0n MWp p5q BrC BrO BrG BrD BrH z0s a3q q3y drQ w8 e2q
set_option maxHeartbeats 4000000
set_option maxRecDepth 8000
instance : Cl y5 := Cl.agg _ (fun _ => rfl) (fun _ => rfl)
instance : Cl q9 := Cl.agg _ (fun _ => rfl) (fun _ => rfl)
instance : Cl j6 := Cl.agg _ (fun _ => rfl) (fun _ => rfl)
def y5e : j5 :=
 (.seq (.reg (sq 2 [bo 2 43 0, bo 3 208 1, mb false])) (.seq (.reg (sq 5 [la 1 2, fa 0 3, ld 6, cf 157 [5, 7], mv 8] ++ sg 9 true 10 [la 1 2, fa 1 3, ld 11, cf 157 [10, 12]] ++ sq 14 [pa 9 13] ++ sq 4 [mv 14])) .ret))
theorem fn231 : t6 Tryz.prog 231 y5e 15 [.tmp 4] := mf Tryz.func231 Tryz.ntmps231
def e5q (sig : q7) (e : Ty2) : Option Bool :=
 (r6 sig e.1).bind fun r =>
 if r = true then
  (r6 sig e.2).bind fun r_1 =>
  some r_1
 else
  some false
instance x6p {sig : q7} {e : Ty2} : y3 (e5q sig e) fun rr => p7 Tryz.prog 231 [u3 sig, y5 e] (bD rr) := ⟨@fun rr h => by
 delta e5q at h
 refine fn231.pureL (q6 ?_)
 delta y5e
 refine v5 ?_
 exact aut⟩
def y5v : j5 :=
 (.seq (.reg (sq 3 [mb false])) (.seq (.reg (sq 4 [mv 0, ld 1, cf 228 [4, 5]] ++ sq 3 [mv 6])) .ret))
theorem fn268 : t6 Tryz.prog 268 y5v 7 [.tmp 3] := mf Tryz.func268 Tryz.ntmps268
def h0q (u : q7) (o0 : Int) : Option Bool :=
 (m5 u o0).bind fun r =>
 some r
instance j7m {u : q7} {o0 : Int} : y3 (h0q u o0) fun rr => x6 Tryz.prog 268 [.d (z7 1 iD u), .ptr 0 0] [(0, .obj 2 [.d (iD o0)])] 1 fun xx ss => xx = .d (bD rr) /\ ss = [(0, .obj 2 [.d (iD o0)])] := ⟨@fun rr h => by
 delta h0q at h
 refine fn268.callsO (q6 ?_)
 delta y5v
 refine v5 ?_
 exact aut⟩
def p5 (s : Ty1) (o0 : Int) : Int -> Option (Int ⊕ Int)
 | v8 =>
  if (decide (v8 < (s.length : Int))) = true then
   if 0 <= v8 /\ v8 < (s.length : Int) then
    (h0q (s.getD v8.toNat default) o0).bind fun r =>
    if r = true then
     Option.map Sum.inr (
      some v8)
    else
     some (.inl (IntKind.i64.wrap (v8 + 1)))
   else none
  else
   Option.map Sum.inr (
    some (-1))
def e9 (s : Ty1) (o0 : Int) : Option Int :=
 loopC (p5 s o0) 0
instance q9o {s : Ty1} {o0 : Int} : y3 (e9 s o0) fun rr => x6 Tryz.prog 277 [.d (z7 1 (z7 1 iD) s), .fn 268 [] [.ptr 0 0]] [(0, .obj 2 [.d (iD o0)])] 1 fun xx ss => xx = .d (iD rr) /\ ss = [(0, .obj 2 [.d (iD o0)])] := ⟨@fun rr h => by
 delta e9 at h
 refine fn277.callsO (q6 ?_)
 delta y6b
 refine v5 ?_
 refine s9 h [4, 5, 8, 9, 10, 11, 12, 13, 14, 15, 16, 17, 18] (fun pp => [(8, .d (iD pp))]) (fun pp => [(0, .obj 2 [.d (iD o0)])]) ?_
 rintro v8 t1 h hb1
 unfold p5 at h
 try dsimp only at h
 refine q6 (v5 ?_)
 refine iT h fun hc h => ?_
 refine ndI h fun hp h => ?_
 refine z7m (by kernel_rfl) ?_
 refine rCo [(0, 0)] [] h fun r hr h => ?_
 exact aut⟩
def w9 (s : Ty1) (o0 : Int) : Option Bool :=
 (e9 s o0).bind fun r =>
 some (decide (0 <= r))
instance q7o {s : Ty1} {o0 : Int} : y3 (w9 s o0) fun rr => x6 Tryz.prog 251 [.d (z7 1 (z7 1 iD) s), .fn 268 [] [.ptr 0 0]] [(0, .obj 2 [.d (iD o0)])] 1 fun xx ss => xx = .d (bD rr) /\ ss = [(0, .obj 2 [.d (iD o0)])] := ⟨@fun rr h => by
 delta w9 at h
 refine fn251.callsO (q6 ?_)
 delta y5r
 refine v5 ?_
 refine rCo [(0, 0)] [] h fun r hr h => ?_
 exact aut⟩
def y5f : j5 :=
 (.seq (.reg (sq 4 [mb false])) (.seq (.seq (.reg (sq 7 [mv 0, ln 7, mi 0])) (.block 0 (.loop (.seq (.reg (sq 10 [bn .lss 9 8])) (.seq (.cond (t0 10) .skip (.exit 0)) (.seq (.block 1 (.seq (.reg (sq 11 [ix 1 7 9, ld 11] ++ sq 6 [.alloc 6 2 [.lit (.int .i64 0)]] ++ s0 (sr 1 6 12))) (.seq (.reg (sq 13 [ld 6, bi .lss 13 0, mv 14] ++ sg 15 true 16 [mv 1, .mkfn 268 [] [(t0 6)], cf 251 [16, 17], nt 18] ++ sq 20 [pa 15 19])) (.cond (t0 20) (.seq (.reg (sq 4 [mb false])) .ret) .skip)))) (.reg (sq 21 [bi .add 9 1] ++ sq 9 [mv 21])))))))) (.seq (.reg (sq 4 [mb true])) .ret)))
theorem fn232 : t6 Tryz.prog 232 y5f 22 [.tmp 4] := mf Tryz.func232 Tryz.ntmps232
def t2q (t : q7) (others : Ty1) : Int -> Option (Int ⊕ Bool)
 | v9 =>
  if (decide (v9 < (t.length : Int))) = true then
   if 0 <= v9 /\ v9 < (t.length : Int) then
    if (decide ((t.getD v9.toNat default) < 0)) = true then
     (w9 others (t.getD v9.toNat default)).bind fun r =>
     if r = true then
      some (.inl (IntKind.i64.wrap (v9 + 1)))
     else
      Option.map Sum.inr (
       some false)
    else
     some (.inl (IntKind.i64.wrap (v9 + 1)))
   else none
  else
   Option.map Sum.inr (
    some true)
def b3q (t : q7) (others : Ty1) : Option Bool :=
 loopC (t2q t others) 0
instance x3s {t : q7} {others : Ty1} : y3 (b3q t others) fun rr => p7 Tryz.prog 232 [(z7 1 iD) t, (z7 1 (z7 1 iD)) others] (bD rr) := ⟨@fun rr h => by
 delta b3q at h
 refine fn232.pureL (q6 ?_)
 delta y5f
 refine v5 ?_
 refine s9 h [4, 6, 9, 10, 11, 12, 13, 14, 15, 16, 17, 18, 19, 20, 21] (fun pp => [(9, .d (iD pp))]) (fun pp => []) ?_
 rintro v9 t1 h hb1
 unfold t2q at h
 try dsimp only at h
 refine q6 (v5 ?_)
 refine iT h fun hc h => ?_
 refine ndI h fun hp h => ?_
 refine it h (fun hc h => ?_) fun hc h => ?_
 ·refine rCo [(0, 6)] [] h fun r hr h => ?_
  refine iT h fun hc h => ?_
  cases h
  refine ⟨_, rfl, ?_⟩
  refine (y0.drop 6 (by omega)).trans ?_
  exact wk
 cases h
 refine ⟨_, rfl, ?_⟩
 refine (y0.drop 6 (by omega)).trans ?_
 exact wk⟩
def y4d : j5 :=
 (.seq (.reg (sq 2 [bo 2 43 0, bo 3 136 1, mb false])) (.seq (.seq (.reg (sq 8 [la 1 2, fa 0 3, ld 9, cf 157 [8, 10], nt 11, mv 12] ++ sg 13 false 14 [la 1 2, fa 1 3, ld 15, cf 157 [14, 16], nt 17] ++ sq 19 [po 13 18, mv 19] ++ sg 20 false 21 [fa 0 3, ld 21, .ixa 1 (t0 22) (i0 0), ld 23, bi .lss 24 0] ++ sq 26 [po 20 25, mv 26] ++ sg 27 false 28 [fa 2 3, ld 28, ln 29, bi .gtr 30 2] ++ sq 32 [po 27 31])) (.cond (t0 32) (.seq (.reg (sq 4 [mb false])) .ret) .skip)) (.seq (.reg (sq 33 [fa 0 3, ld 33, .bsl 35 22 1 [(t0 34)]] ++ sq 5 [mv 35])) (.seq (.seq (.reg (sq 36 [fa 2 3, ld 36, ln 37, mi 0])) (.block 0 (.loop (.seq (.reg (sq 40 [bn .lss 39 38])) (.seq (.cond (t0 40) .skip (.exit 0)) (.seq (.block 1 (.seq (.reg (sq 41 [ix 2 37 39, la 2 41] ++ sq 7 [.alloc 7 208 [.sl 0 (some true) [], .sl 0 (some true) []]] ++ s0 (sr 2 7 42))) (.seq (.seq (.reg (sq 43 [la 1 2, la 2 7, cf 231 [43, 44], nt 45, mv 46] ++ sg 47 false 48 [fa 0 7, ld 48, mv 5, cf 232 [49, 50], nt 51] ++ sq 53 [po 47 52])) (.cond (t0 53) (.seq (.reg (sq 4 [mb false])) .ret) .skip)) (.reg (sq 54 [mv 5, fa 1 7, ld 55, .bsl 57 22 1 [(t0 56)], ap 58 22 1 24 54 57] ++ sq 5 [mv 58]))))) (.reg (sq 59 [bi .add 39 1] ++ sq 39 [mv 59])))))))) (.seq (.reg (sq 60 [fa 1 3, ld 60, mv 5, cf 232 [61, 62]] ++ sq 4 [mv 63])) .ret)))))
theorem fn175 : t6 Tryz.prog 175 y4d 64 [.tmp 4] := mf Tryz.func175 Tryz.ntmps175
def y9q (sig : q7) (r : Ty8) : (Ty1 × Int) -> Option ((Ty1 × Int) ⊕ Bool)
 | (bound, v39) =>
  if (decide (v39 < (r.2.2.length : Int))) = true then
   if 0 <= v39 /\ v39 < (r.2.2.length : Int) then
    (e5q sig ((r.2.2.getD v39.toNat default).1, (r.2.2.getD v39.toNat default).2)).bind fun r_3 =>
    if r_3 = true then
     (b3q ((r.2.2.getD v39.toNat default).1) bound).bind fun r_4 =>
     if r_4 = true then
      if (bound.length + 1) * 24 <= 140737488355328 then
       some (.inl ((bound ++ [(r.2.2.getD v39.toNat default).2]), (IntKind.i64.wrap (v39 + 1))))
      else none
     else
      Option.map Sum.inr (
       some false)
    else
     Option.map Sum.inr (
      some false)
   else none
  else
   Option.map Sum.inr (
    (b3q r.2.1 bound).bind fun r_5 =>
    some r_5)
def w0q (sig : q7) (r : Ty8) : Option Bool :=
 (r6 sig r.1).bind fun r_1 =>
 if r_1 = true then
  (r6 sig r.2.1).bind fun r_2 =>
  if r_2 = true then
   if 0 <= 0 /\ 0 < (r.1.length : Int) then
    if (decide ((r.1.getD 0 default) < 0)) = true then
     some false
    else
     if (decide (2 < (r.2.2.length : Int))) = true then
      some false
     else
      loopC (y9q sig r) ([r.1], 0)
   else none
  else
   some false
 else
  some false
instance j7i {sig : q7} {r : Ty8} : y3 (w0q sig r) fun rr => p7 Tryz.prog 175 [u3 sig, q9 r] (bD rr) := ⟨@fun rr h => by
 delta w0q at h
 refine fn175.pureL (q6 ?_)
 delta y4d
 refine v5 ?_
 refine rC h fun r_1 hr_1 h => ?_
 refine iT h fun hc h => ?_
 refine rC h fun r_2 hr_2 h => ?_
 refine iT h fun hc h => ?_
 refine ndI h fun hp h => ?_
 refine iF h fun hc h => ?_
 refine iF h fun hc h => ?_
 refine s9 h [4, 5, 7, 39, 40, 41, 42, 43, 44, 45, 46, 47, 48, 49, 50, 51, 52, 53, 54, 55, 56, 57, 58, 59] (fun pp => [(5, .own 1 35 (List.map (z7 1 iD) pp.1)), (39, .d (iD pp.2))]) (fun pp => [(2, .obj 43 [.d (z7 1 iD sig)]), (3, .obj 136 [.d (z7 1 iD r.1), .d (z7 1 iD r.2.1), .d (z7 2 y5 r.2.2)]), (35, .tok 22 1 pp.1.length)]) ?_
 rintro ⟨bound, v39⟩ t1 h hb1
 unfold y9q at h
 try dsimp only at h
 refine q6 (v5 ?_)
 refine iT h fun hc h => ?_
 refine ndI h fun hp h => ?_
 refine rC h fun r_3 hr_3 h => ?_
 refine iT h fun hc h => ?_
 refine rC h fun r_4 hr_4 h => ?_
 refine iT h fun hc h => ?_
 refine ndI h fun hp h => ?_
 cases h
 refine ⟨_, rfl, ?_⟩
 refine (y0.drop 7 (by omega)).trans ?_
 refine (y0.drop 57 (by omega)).trans ?_
 exact wk⟩
def y4c : j5 :=
 (.seq (.reg (sq 2 [bo 2 136 0, mb false])) (.seq (.reg (sq 4 [fa 0 1, la 1 4, la 3 2, cf 175 [5, 6], nt 7] ++ sq 3 [mv 8])) .ret))
theorem fn174 : t6 Tryz.prog 174 y4c 9 [.tmp 3] := mf Tryz.func174 Tryz.ntmps174
def w8q (r : Ty8) (o00 : q7) (o01 : Ty9) : Option Bool :=
 (w0q o00 r).bind fun r_1 =>
 some (!r_1)
instance z6e {r : Ty8} {o00 : q7} {o01 : Ty9} : y3 (w8q r o00 o01) fun rr => x6 Tryz.prog 174 [.d (.agg [z7 1 iD r.1, z7 1 iD r.2.1, z7 2 y5 r.2.2]), .ptr 0 0] [(0, .obj 74 [.d (z7 1 iD o00), .d (z7 3 q9 o01)])] 1 fun xx ss => xx = .d (bD rr) /\ ss = [(0, .obj 74 [.d (z7 1 iD o00), .d (z7 3 q9 o01)])] := ⟨@fun rr h => by
 delta w8q at h
 refine fn174.callsO (q6 ?_)
 delta y4c
 refine v5 ?_
 refine rC h fun r_1 hr_1 h => ?_
 cases h
 exact ⟨[2], by simp, don, don⟩⟩
def y5d : j5 :=
 (.seq (.reg (sq 4 [mi 0])) (.seq (.seq (.reg (sq 6 [mv 0, ln 6, mi 0])) (.block 0 (.loop (.seq (.reg (sq 9 [bn .lss 8 7])) (.seq (.cond (t0 9) .skip (.exit 0)) (.seq (.block 1 (.seq (.reg (sq 10 [mv 8] ++ sq 5 [mv 10])) (.seq (.reg (sq 11 [mv 1, mv 0, mv 5, ix 3 12 13, la 3 14, .callv (t0 11) [(t0 15)]])) (.cond (t0 16) (.seq (.reg (sq 17 [mv 5] ++ sq 4 [mv 17])) .ret) .skip)))) (.reg (sq 18 [bi .add 8 1] ++ sq 8 [mv 18])))))))) (.seq (.reg (sq 4 [mi (-1)])) .ret)))
theorem fn230 : t6 Tryz.prog 230 y5d 19 [.tmp 4] := mf Tryz.func230 Tryz.ntmps230
def d9 (s : Ty9) (o00 : q7) (o01 : Ty9) : Int -> Option (Int ⊕ Int)
 | v8 =>
  if (decide (v8 < (s.length : Int))) = true then
   if 0 <= v8 /\ v8 < (s.length : Int) then
    (w8q ((s.getD v8.toNat default).1, (s.getD v8.toNat default).2.1, (s.getD v8.toNat default).2.2) o00 o01).bind fun r =>
    if r = true then
     Option.map Sum.inr (
      some v8)
    else
     some (.inl (IntKind.i64.wrap (v8 + 1)))
   else none
  else
   Option.map Sum.inr (
    some (-1))
def n6 (s : Ty9) (o00 : q7) (o01 : Ty9) : Option Int :=
 loopC (d9 s o00 o01) 0
instance q5s {s : Ty9} {o00 : q7} {o01 : Ty9} : y3 (n6 s o00 o01) fun rr => x6 Tryz.prog 230 [.d (z7 3 q9 s), .fn 174 [] [.ptr 0 0]] [(0, .obj 74 [.d (z7 1 iD o00), .d (z7 3 q9 o01)])] 1 fun xx ss => xx = .d (iD rr) /\ ss = [(0, .obj 74 [.d (z7 1 iD o00), .d (z7 3 q9 o01)])] := ⟨@fun rr h => by
 delta n6 at h
 refine fn230.callsO (q6 ?_)
 delta y5d
 refine v5 ?_
 refine s9 h [4, 5, 8, 9, 10, 11, 12, 13, 14, 15, 16, 17, 18] (fun pp => [(8, .d (iD pp))]) (fun pp => [(0, .obj 74 [.d (z7 1 iD o00), .d (z7 3 q9 o01)])]) ?_
 rintro v8 t1 h hb1
 unfold d9 at h
 try dsimp only at h
 refine q6 (v5 ?_)
 refine iT h fun hc h => ?_
 refine ndI h fun hp h => ?_
 refine z7m (by kernel_rfl) ?_
 refine rCo [(0, 0)] [] h fun r hr h => ?_
 exact aut⟩
def y4b : j5 :=
 (.seq (.reg (sq 4 [mb false])) (.seq (.reg (sq 5 [mv 0, mv 1, cf 230 [5, 6], bi .geq 7 0] ++ sq 4 [mv 8])) .ret))
theorem fn173 : t6 Tryz.prog 173 y4b 9 [.tmp 4] := mf Tryz.func173 Tryz.ntmps173
def w7 (s : Ty9) (o00 : q7) (o01 : Ty9) : Option Bool :=
 (n6 s o00 o01).bind fun r =>
 some (decide (0 <= r))
instance q4s {s : Ty9} {o00 : q7} {o01 : Ty9} : y3 (w7 s o00 o01) fun rr => x6 Tryz.prog 173 [.d (z7 3 q9 s), .fn 174 [] [.ptr 0 0]] [(0, .obj 74 [.d (z7 1 iD o00), .d (z7 3 q9 o01)])] 1 fun xx ss => xx = .d (bD rr) /\ ss = [(0, .obj 74 [.d (z7 1 iD o00), .d (z7 3 q9 o01)])] := ⟨@fun rr h => by
 delta w7 at h
 refine fn173.callsO (q6 ?_)
 delta y4b
 refine v5 ?_
 refine rCo [(0, 0)] [] h fun r hr h => ?_
 exact aut⟩
def mc92 : j5 :=
 (.seq (.reg (sq 1 [bo 1 74 0, mb false])) (.seq (.seq (.reg (sq 3 [fa 0 1, la 1 3, cf 172 [4], nt 5, mv 6] ++ sg 7 false 8 [fa 1 1, ld 8, ln 9, bi .gtr 10 12] ++ sq 12 [po 7 11])) (.cond (t0 12) (.seq (.reg (sq 2 [mb false])) .ret) .skip)) (.seq (.reg (sq 13 [fa 1 1, ld 13, .mkfn 174 [] [(t0 1)], cf 173 [14, 15], nt 16] ++ sq 2 [mv 17])) .ret)))
theorem fn92 : t6 Tryz.prog 92 mc92 18 [.tmp 2] := mf Tryz.func92 Tryz.ntmps92
def f3q (cs : TyA) : Option Bool :=
 (m4q cs.1).bind fun r =>
 if r = true then
  if (decide (12 < (cs.2.length : Int))) = true then
   some false
  else
   (w7 cs.2 cs.1 cs.2).bind fun r_1 =>
   some (!r_1)
 else
  some false
instance j1h {cs : TyA} : y3 (f3q cs) fun rr => p7 Tryz.prog 92 [j6 cs] (bD rr) := ⟨@fun rr h => by
 delta f3q at h
 refine fn92.pureL (q6 ?_)
 delta mc92
 refine v5 ?_
 refine rC h fun r hr h => ?_
 refine iT h fun hc h => ?_
 refine iF h fun hc h => ?_
 refine rCo [(0, 1)] [] h fun r_1 hr_1 h => ?_
 exact aut⟩
def mc83 : j5 :=
 (.seq (.reg (sq 3 [bo 3 74 0] ++ sq 6 [mb false])) (.seq (.reg (sq 7 [la 2 3, cf 92 [7], mv 8] ++ sg 9 true 10 [fa 0 3, la 1 10, mv 1, cf 157 [11, 12]] ++ sq 14 [pa 9 13, mv 14] ++ sg 15 true 16 [mv 2, bi .geq 16 0] ++ sq 18 [pa 15 17, mv 18] ++ sg 19 true 20 [mv 2, bi .leq 20 2] ++ sq 22 [pa 19 21] ++ sq 6 [mv 22])) .ret))
theorem fn83 : t6 Tryz.prog 83 mc83 23 [.tmp 6] := mf Tryz.func83 Tryz.ntmps83
def z9q (cs : TyA) (t : q7) (depth : Int) : Option Bool :=
 (f3q cs).bind fun r =>
 if r = true then
  (r6 cs.1 t).bind fun r_1 =>
  if r_1 = true then
   if (decide (0 <= depth)) = true then
    some (decide (depth <= 2))
   else
    some false
  else
   some false
 else
  some false
instance z0n {cs : TyA} {t : q7} {depth : Int} : y3 (z9q cs t depth) fun rr => p7 Tryz.prog 83 [j6 cs, (z7 1 iD) t, iD depth] (bD rr) := ⟨@fun rr h => by
 delta z9q at h
 refine fn83.pureL (q6 ?_)
 delta mc83
 refine v5 ?_
 exact aut⟩
def x8f : j5 :=
 (.seq (.reg (sq 3 [bo 3 74 0] ++ sq 6 [mi 0, mi 0, .mv (.const (.slice none 0 0))])) (.seq (.reg (sq 9 [mi (-1), mi 0])) (.seq (.reg (sq 11 [.mv (.const (.slice none 0 0))])) (.seq (.reg (sq 18 [mv 1, ln 18] ++ sq 12 [mv 19])) (.seq (.seq (.reg (sq 20 [mv 1, ln 20, bi .sub 21 1] ++ sq 13 [mv 22])) (.block 0 (.loop (.seq (.seq (.reg (sq 23 [mv 13, bi .geq 23 0])) (.cond (t0 24) .skip (.exit 0))) (.seq (.block 1 (.seq (.seq (.reg (sq 27 [mv 1, mv 13, ix 1 27 28, ld 29, bi .lss 30 0, mv 31] ++ sg 32 false 33 [fa 0 3, la 1 33, mv 1, mv 13, cf 195 [34, 35, 36], mv 12, bn .gtr 37 38] ++ sq 40 [po 32 39])) (.cond (t0 40) (.exit 1) .skip)) (.seq (.reg (sq 41 [fa 1 3, ld 41, ln 42, mi 0])) (.block 2 (.loop (.seq (.reg (sq 45 [bn .lss 44 43])) (.seq (.cond (t0 45) .skip (.exit 2)) (.seq (.block 3 (.seq (.reg (sq 46 [mv 44, ix 3 42 44, la 3 47] ++ sq 15 [.alloc 15 136 [.sl 0 (some true) [], .sl 0 (some true) [], .sl 0 (some true) []]] ++ sq 14 [mv 46] ++ s0 (sr 3 15 48))) (.seq (.reg (sq 50 [la 2 3, mv 1, mv 13, la 3 15, mv 2, cf 84 [50, 51, 52, 53, 54]] ++ sq 49 [mv 55] ++ sq 56 [ex 49 0, ex 49 1] ++ sq 16 [mv 56, mv 57])) (.seq (.reg (sq 58 [mv 17])) (.cond (t0 58) (.seq (.reg (sq 59 [mv 13, mv 14, mv 16] ++ sq 9 [mv 59, mv 60, mv 61])) (.seq (.reg (sq 62 [mv 13] ++ sq 12 [mv 62])) (.exit 2))) .skip))))) (.reg (sq 63 [bi .add 44 1] ++ sq 44 [mv 63])))))))))) (.reg (sq 25 [mv 13, bi .sub 25 1] ++ sq 13 [mv 26]))))))) (.seq (.reg (sq 64 [mv 9, mv 10, mv 11] ++ sq 6 [mv 64, mv 65, mv 66])) .ret))))))
theorem y2a : t6 Tryz.prog 168 x8f 67 [.tmp 6, .tmp 7, .tmp 8] := mf Tryz.func168 Tryz.ntmps168
def c8 (rec : TyA -> q7 -> Int -> Ty8 -> Int -> Option (q7 × Bool)) (cs : TyA) (t : q7) (depth : Int) (best : Int) (rule : Int) (to : q7) (lowest : Int) (x7 : Int) : Int -> Option (Int ⊕ ((Int × Int × q7 × Int × Int) ⊕ Ty4))
 | v44 =>
  if (decide (v44 < (cs.2.length : Int))) = true then
   if 0 <= v44 /\ v44 < (cs.2.length : Int) then
    (rec cs t x7 ((cs.2.getD v44.toNat default).1, (cs.2.getD v44.toNat default).2.1, (cs.2.getD v44.toNat default).2.2) depth).bind fun r_1 =>
    if r_1.2 = true then
     Option.map Sum.inr (
      some (.inl (x7, v44, r_1.1, x7, (IntKind.i64.wrap (x7 - 1)))))
    else
     some (.inl (IntKind.i64.wrap (v44 + 1)))
   else none
  else
   Option.map Sum.inr (
    some (.inl (best, rule, to, lowest, (IntKind.i64.wrap (x7 - 1)))))
def m6 (rec : TyA -> q7 -> Int -> Ty8 -> Int -> Option (q7 × Bool)) (cs : TyA) (t : q7) (depth : Int) : (Int × Int × q7 × Int × Int) -> Option ((Int × Int × q7 × Int × Int) ⊕ Ty4)
 | (best, rule, to, lowest, x7) =>
  if (decide (0 <= x7)) = true then
   if 0 <= x7 /\ x7 < (t.length : Int) then
    if (decide ((t.getD x7.toNat default) < 0)) = true then
     some (.inl (best, rule, to, lowest, (IntKind.i64.wrap (x7 - 1))))
    else
     (y6q cs.1 t x7).bind fun r =>
     if (decide (lowest < r)) = true then
      some (.inl (best, rule, to, lowest, (IntKind.i64.wrap (x7 - 1))))
     else
      loopC (c8 rec cs t depth best rule to lowest x7) 0
   else none
  else
   Option.map Sum.inr (
    some (best, rule, to))
def n9 (rec : TyA -> q7 -> Int -> Ty8 -> Int -> Option (q7 × Bool)) (cs : TyA) (t : q7) (depth : Int) : Option Ty4 :=
 loopC (m6 rec cs t depth) ((-1), 0, [], (t.length : Int), (IntKind.i64.wrap ((t.length : Int) - 1)))
instance z4f {rec : TyA -> q7 -> Int -> Ty8 -> Int -> Option (q7 × Bool)} [ih : ∀ {cs : TyA} {t : q7} {x7 : Int} {r : Ty8} {depth : Int}, y3 (rec cs t x7 r depth) fun rr => r9 Tryz.prog 84 [j6 cs, (z7 1 iD) t, iD x7, q9 r, iD depth] [(z7 1 iD) rr.1, bD rr.2]] {cs : TyA} {t : q7} {depth : Int} : y3 (n9 rec cs t depth) fun rr => r9 Tryz.prog 168 [j6 cs, (z7 1 iD) t, iD depth] [iD rr.1, iD rr.2.1, (z7 1 iD) rr.2.2] := ⟨@fun rr h => by
 delta n9 at h
 refine y2a.pureLN (q6 ?_)
 delta x8f
 refine v5 ?_
 refine s9 h [9, 10, 11, 12, 13, 14, 15, 16, 17, 23, 24, 25, 26, 27, 28, 29, 30, 31, 32, 33, 34, 35, 36, 37, 38, 39, 40, 41, 42, 43, 44, 45, 46, 47, 48, 49, 50, 51, 52, 53, 54, 55, 56, 57, 58, 59, 60, 61, 62, 63] (fun pp => [(9, .d (iD pp.1)), (10, .d (iD pp.2.1)), (11, .d (z7 1 iD pp.2.2.1)), (12, .d (iD pp.2.2.2.1)), (13, .d (iD pp.2.2.2.2))]) (fun pp => [(3, .obj 74 [.d (z7 1 iD cs.1), .d (z7 3 q9 cs.2)])]) ?_
 rintro ⟨best, rule, to, lowest, x7⟩ t1 h hb1
 unfold m6 at h
 try dsimp only at h
 refine q6 (v5 ?_)
 refine iT h fun hc h => ?_
 refine ndI h fun hp h => ?_
 refine iF h fun hc h => ?_
 refine rC h fun r hr h => ?_
 refine iF h fun hc h => ?_
 refine s9 h [9, 10, 11, 12, 14, 15, 16, 17, 44, 45, 46, 47, 48, 49, 50, 51, 52, 53, 54, 55, 56, 57, 58, 59, 60, 61, 62, 63] (fun pp => [(9, .d (iD best)), (10, .d (iD rule)), (11, .d (z7 1 iD to)), (12, .d (iD lowest)), (44, .d (iD pp))]) (fun pp => [(3, .obj 74 [.d (z7 1 iD cs.1), .d (z7 3 q9 cs.2)])]) ?_
 rintro v44 t2 h hb2
 unfold c8 at h
 try dsimp only at h
 refine q6 (v5 ?_)
 refine iT h fun hc h => ?_
 refine ndI h fun hp h => ?_
 refine rCN h fun r_1 hr_1 h => ?_
 refine it h (fun hc h => ?_) fun hc h => ?_
 ·replace h := u9 h hb2
  cases h
  refine ⟨_, rfl, ?_⟩
  refine (y0.drop 15 (by omega)).trans ?_
  exact wk
 cases h
 refine ⟨_, rfl, ?_⟩
 refine (y0.drop 15 (by omega)).trans ?_
 exact wk⟩
def y4y : j5 :=
 (.seq (.reg (sq 2 [mb false])) (.seq (.seq (.reg (sq 3 [mv 0, .nilc (t0 3), ld 4, bi .eql 5 0])) (.cond (t0 6) (.seq (.reg (sq 2 [mb false])) .ret) .skip)) (.seq (.reg (sq 7 [mv 0, .nilc (t0 7), ld 8, bi .sub 9 1, .nilc (t0 7)] ++ s0 (sr 1 11 10))) (.seq (.reg (sq 2 [mb true])) .ret))))
theorem fn225 : t6 Tryz.prog 225 y4y 12 [.tmp 2] := mf Tryz.func225 Tryz.ntmps225
def h8q (fuel : Int) : Option (Bool × Int) :=
 if (fuel == 0) = true then
  some (false, fuel)
 else
  some (true, (IntKind.i64.wrap (fuel - 1)))
instance x3w {fuel : Int} : y3 (h8q fuel) fun rr => x6 Tryz.prog 225 [.ptr 0 0] [(0, .obj 3 [.d (iD fuel)])] 1 fun xx ss => xx = .d (bD rr.1) /\ ss = [(0, .obj 3 [.d (iD rr.2)])] := ⟨@fun rr h => by
 delta h8q at h
 refine fn225.callsO (q6 ?_)
 delta y4y
 refine v5 ?_
 exact aut⟩
def y3u : j5 :=
 (.seq (.reg (sq 3 [bo 3 74 0] ++ sq 6 [.mv (.const (.slice none 0 0)), mb false])) (.seq (.reg (sq 8 [.alloc 8 3 [.lit (.int .i64 0)]] ++ s0 (.store 1 (t0 8) (i0 8)))) (.block 0 (.loop (.block 1 (.seq (.reg (sq 13 [la 2 3, mv 1, mv 2, cf 168 [13, 14, 15]] ++ sq 12 [mv 16] ++ sq 17 [ex 12 0, ex 12 1, ex 12 2] ++ sq 9 [mv 17, mv 18, mv 19])) (.seq (.seq (.reg (sq 20 [mv 9, bi .lss 20 0])) (.cond (t0 21) (.seq (.reg (sq 22 [mv 1] ++ sq 6 [mv 22, mb true])) .ret) .skip)) (.seq (.seq (.reg (sq 23 [cf 225 [8], nt 23])) (.cond (t0 24) (.seq (.reg (sq 6 [.mv (.const (.slice none 0 0)), mb false])) .ret) .skip)) (.reg (sq 25 [mv 11] ++ sq 1 [mv 25]))))))))))
theorem fn161 : t6 Tryz.prog 161 y3u 26 [.tmp 6, .tmp 7] := mf Tryz.func161 Tryz.ntmps161
def b6 (rec : TyA -> q7 -> Int -> Ty8 -> Int -> Option (q7 × Bool)) (cs : TyA) (depth : Int) : (q7 × Int) -> Option ((q7 × Int) ⊕ (q7 × Bool))
 | (t_1, fuel) =>
  (n9 rec cs t_1 depth).bind fun r =>
  if (decide (r.1 < 0)) = true then
   Option.map Sum.inr (
    some (t_1, true))
  else
   (h8q fuel).bind fun r_1 =>
   if r_1.1 = true then
    some (.inl (r.2.2, r_1.2))
   else
    Option.map Sum.inr (
     some ([], false))
def d8 (rec : TyA -> q7 -> Int -> Ty8 -> Int -> Option (q7 × Bool)) (cs : TyA) (t : q7) (depth : Int) : Option (q7 × Bool) :=
 loopC (b6 rec cs depth) (t, 8)
instance z1g {rec : TyA -> q7 -> Int -> Ty8 -> Int -> Option (q7 × Bool)} [ih : ∀ {cs : TyA} {t : q7} {x7 : Int} {r : Ty8} {depth : Int}, y3 (rec cs t x7 r depth) fun rr => r9 Tryz.prog 84 [j6 cs, (z7 1 iD) t, iD x7, q9 r, iD depth] [(z7 1 iD) rr.1, bD rr.2]] {cs : TyA} {t : q7} {depth : Int} : y3 (d8 rec cs t depth) fun rr => r9 Tryz.prog 161 [j6 cs, (z7 1 iD) t, iD depth] [(z7 1 iD) rr.1, bD rr.2] := ⟨@fun rr h => by
 delta d8 at h
 refine fn161.pureLN (q6 ?_)
 delta y3u
 refine v5 ?_
 refine s9 h [1, 6, 7, 9, 10, 11, 12, 13, 14, 15, 16, 17, 18, 19, 20, 21, 22, 23, 24, 25] (fun pp => [(1, .d (z7 1 iD pp.1))]) (fun pp => [(3, .obj 74 [.d (z7 1 iD cs.1), .d (z7 3 q9 cs.2)]), (8, .obj 3 [.d (iD pp.2)])]) ?_
 rintro ⟨t_1, fuel⟩ t1 h hb1
 unfold b6 at h
 try dsimp only at h
 refine q6 (v5 ?_)
 refine rCN h fun r hr h => ?_
 refine iF h fun hc h => ?_
 refine rCo [(0, 8)] [] h fun r_1 hr_1 h => ?_
 exact aut⟩
def mc84 : j5 :=
 (.seq (.reg (sq 5 [bo 5 74 0] ++ sq 8 [bo 8 136 3] ++ sq 10 [.mv (.const (.slice none 0 0)), mb false])) (.seq (.draw (sq 21 [fa 0 5, la 1 21, fa 0 8, ld 23, fa 0 5, la 1 25, mv 1, mv 2, cf 159 [26, 27, 28], .build [.sl 0 (some true) [], .sl 0 (some true) [], .sl 0 (some true) [], .sl 0 (some true) [], .sl 0 (some true) [], .sl 0 (some true) [], .sl 0 (some true) [], .sl 0 (some true) [], .sl 0 (some true) [], .sl 0 (some true) [], .sl 0 (some true) [], .sl 0 (some true) [], .sl 0 (some true) [], .sl 0 (some true) [], .sl 0 (some true) [], .sl 0 (some true) [], .sl 0 (some true) [], .sl 0 (some true) [], .sl 0 (some true) [], .sl 0 (some true) [], .sl 0 (some true) [], .sl 0 (some true) [], .sl 0 (some true) [], .sl 0 (some true) []] [], cf 158 [22, 24, 29, 30]] ++ sq 20 [mv 31] ++ sq 32 [ex 20 0, ex 20 1] ++ sq 12 [.alloc 12 204 [.sl 0 (some true) [], .sl 0 (some true) [], .sl 0 (some true) [], .sl 0 (some true) [], .sl 0 (some true) [], .sl 0 (some true) [], .sl 0 (some true) [], .sl 0 (some true) [], .sl 0 (some true) [], .sl 0 (some true) [], .sl 0 (some true) [], .sl 0 (some true) [], .sl 0 (some true) [], .sl 0 (some true) [], .sl 0 (some true) [], .sl 0 (some true) [], .sl 0 (some true) [], .sl 0 (some true) [], .sl 0 (some true) [], .sl 0 (some true) [], .sl 0 (some true) [], .sl 0 (some true) [], .sl 0 (some true) [], .sl 0 (some true) []]] ++ s0 (sr 24 12 32) ++ sq 13 [mv 33]) [[], [0], [], [2], [], [4], [], [], [5, 6, 7], [], [1, 3, 8, 9, 8], [10], [11], [11], [], [14, 12, 10, 0, 1, 2, 3, 4, 5, 6, 7, 8, 9, 10, 11, 12, 14], [13, 15, 0, 1, 2, 3, 4, 5, 6, 7, 8, 9, 10, 11, 12, 13, 14, 15]]) (.seq (.seq (.reg (sq 34 [mv 13, nt 34, mv 35] ++ sg 36 false 37 [fa 2 8, ld 37, ln 38, bi .gtr 39 0, mv 40] ++ sg 41 true 42 [mv 4, bi .eql 42 0] ++ sg 36 false 44 [pa 41 43] ++ sq 45 [po 36 44])) (.cond (t0 45) (.seq (.reg (sq 10 [.mv (.const (.slice none 0 0)), mb false])) .ret) .skip)) (.seq (.seq (.reg (sq 46 [fa 2 8, ld 46, ln 47, mi 0])) (.block 0 (.loop (.seq (.reg (sq 50 [bn .lss 49 48])) (.seq (.cond (t0 50) .skip (.exit 0)) (.seq (.block 1 (.seq (.reg (sq 51 [ix 2 47 49, la 2 51] ++ sq 15 [.alloc 15 208 [.sl 0 (some true) [], .sl 0 (some true) []]] ++ s0 (sr 2 15 52))) (.seq (.draw (sq 54 [la 24 12, cf 160 [54], fa 0 15, ld 56, cf 125 [55, 57]] ++ sq 53 [mv 58] ++ sq 59 [ex 53 0, ex 53 1] ++ sq 16 [mv 59, mv 60]) [[], [0], [], [2], [1, 3, 1], [4], [5], [5], [6, 4, 0, 1, 2, 3, 4, 5, 6], [7, 8, 0, 1, 2, 3, 4, 5, 6, 7, 8]]) (.seq (.seq (.reg (sq 61 [mv 17, nt 61])) (.cond (t0 62) (.seq (.reg (sq 10 [.mv (.const (.slice none 0 0)), mb false])) .ret) .skip)) (.seq (.reg (sq 64 [la 2 5, mv 16, mv 4, bi .sub 66 1, cf 161 [64, 65, 67]] ++ sq 63 [mv 68] ++ sq 69 [ex 63 0, ex 63 1] ++ sq 18 [mv 69] ++ sq 17 [mv 70])) (.seq (.seq (.reg (sq 71 [mv 17, nt 71])) (.cond (t0 72) (.seq (.reg (sq 10 [.mv (.const (.slice none 0 0)), mb false])) .ret) .skip)) (.seq (.reg (sq 74 [fa 0 5, la 1 74, fa 1 15, ld 76, mv 18, la 24 12, cf 158 [75, 77, 78, 79]] ++ sq 73 [mv 80] ++ sq 81 [ex 73 0, ex 73 1] ++ s0 (sr 24 12 81) ++ sq 17 [mv 82])) (.seq (.reg (sq 83 [mv 17, nt 83])) (.cond (t0 84) (.seq (.reg (sq 10 [.mv (.const (.slice none 0 0)), mb false])) .ret) .skip))))))))) (.reg (sq 85 [bi .add 49 1] ++ sq 49 [mv 85])))))))) (.seq (.draw (sq 87 [la 24 12, cf 160 [87], fa 1 8, ld 89, cf 125 [88, 90]] ++ sq 86 [mv 91] ++ sq 92 [ex 86 0, ex 86 1] ++ sq 19 [mv 92] ++ sq 13 [mv 93]) [[], [0], [], [2], [1, 3, 1], [4], [5], [5], [6, 4, 0, 1, 2, 3, 4, 5, 6], [7, 8, 0, 1, 2, 3, 4, 5, 6, 7, 8]]) (.seq (.seq (.reg (sq 94 [mv 13, nt 94])) (.cond (t0 95) (.seq (.reg (sq 10 [.mv (.const (.slice none 0 0)), mb false])) .ret) .skip)) (.seq (.reg (sq 96 [fa 0 5, la 1 96, mv 1, mv 2, mv 19, cf 127 [97, 98, 99, 100], ex 101 0, ex 101 1] ++ sq 10 [mv 102, mv 103])) .ret)))))))
theorem fn84 : t6 Tryz.prog 84 mc84 104 [.tmp 10, .tmp 11] := mf Tryz.func84 Tryz.ntmps84
def u8 (rec : TyA -> q7 -> Int -> Ty8 -> Int -> Option (q7 × Bool)) (cs : TyA) (t : q7) (x7 : Int) (r : Ty8) (depth : Int) : (Int × Ty1) -> Option ((Int × Ty1) ⊕ (q7 × Bool))
 | (v49, b) =>
  if (decide (v49 < (r.2.2.length : Int))) = true then
   if 0 <= v49 /\ v49 < (r.2.2.length : Int) then
    if b.length = 24 then
     (w6 b).bind fun r_3 =>
     (k5q r_3 ((r.2.2.getD v49.toNat default).1)).bind fun r_4 =>
     if r_4.2 = true then
      (d8 rec cs r_4.1 (IntKind.i64.wrap (depth - 1))).bind fun r_5 =>
      if r_5.2 = true then
       if b.length = 24 then
        (i9 cs.1 ((r.2.2.getD v49.toNat default).2) r_5.1 b).bind fun r_6 =>
        if r_6.1.length = 24 /\ b.length = 24 then
         if r_6.2 = true then
          some (.inl ((IntKind.i64.wrap (v49 + 1)), r_6.1))
         else
          Option.map Sum.inr (
           some ([], false))
        else none
       else none
      else
       Option.map Sum.inr (
        some ([], false))
     else
      Option.map Sum.inr (
       some ([], false))
    else none
   else none
  else
   Option.map Sum.inr (
    if b.length = 24 then
     (w6 b).bind fun r_7 =>
     (k5q r_7 r.2.1).bind fun r_8 =>
     if r_8.2 = true then
      (g4q cs.1 t x7 r_8.1).bind fun r_9 =>
      some r_9
     else
      some ([], false)
    else none)
def g1q (rec : TyA -> q7 -> Int -> Ty8 -> Int -> Option (q7 × Bool)) (cs : TyA) (t : q7) (x7 : Int) (r : Ty8) (depth : Int) : (Int × Ty1) -> Option ((Int × Ty1) ⊕ (q7 × Bool))
 | (v49_1, b_1) =>
  if (decide (v49_1 < (r.2.2.length : Int))) = true then
   if 0 <= v49_1 /\ v49_1 < (r.2.2.length : Int) then
    if b_1.length = 24 then
     (w6 b_1).bind fun r_10 =>
     (k5q r_10 ((r.2.2.getD v49_1.toNat default).1)).bind fun r_11 =>
     if r_11.2 = true then
      (d8 rec cs r_11.1 (IntKind.i64.wrap (depth - 1))).bind fun r_12 =>
      if r_12.2 = true then
       if b_1.length = 24 then
        (i9 cs.1 ((r.2.2.getD v49_1.toNat default).2) r_12.1 b_1).bind fun r_13 =>
        if r_13.1.length = 24 /\ b_1.length = 24 then
         if r_13.2 = true then
          some (.inl ((IntKind.i64.wrap (v49_1 + 1)), r_13.1))
         else
          Option.map Sum.inr (
           some ([], false))
        else none
       else none
      else
       Option.map Sum.inr (
        some ([], false))
     else
      Option.map Sum.inr (
       some ([], false))
    else none
   else none
  else
   Option.map Sum.inr (
    if b_1.length = 24 then
     (w6 b_1).bind fun r_14 =>
     (k5q r_14 r.2.1).bind fun r_15 =>
     if r_15.2 = true then
      (g4q cs.1 t x7 r_15.1).bind fun r_16 =>
      some r_16
     else
      some ([], false)
    else none)
def v6 : Nat -> TyA -> q7 -> Int -> Ty8 -> Int -> Option (q7 × Bool)
 | 0, _, _, _, _, _ => none
 | fu + 1, cs, t, x7, r, depth =>
  (q7q cs.1 t x7).bind fun r_1 =>
  (i9 cs.1 r.1 r_1 (List.replicate 24 [])).bind fun r_2 =>
  if r_2.1.length = 24 then
   if r_2.2 = true then
    if (decide (0 < (r.2.2.length : Int))) = true then
     if (depth == 0) = true then
      some ([], false)
     else
      loopC (u8 (v6 fu) cs t x7 r depth) (0, r_2.1)
    else
     loopC (g1q (v6 fu) cs t x7 r depth) (0, r_2.1)
   else
    some ([], false)
  else none
def i7 (cs : TyA) (t : q7) (x7 : Int) (r : Ty8) (depth : Int) : Option (q7 × Bool) := j0j fun fu => v6 fu cs t x7 r depth
theorem q2i : ∀ {fu : Nat} {cs : TyA} {t : q7} {x7 : Int} {r : Ty8} {depth : Int} {rr : (q7 × Bool)} (h : v6 fu cs t x7 r depth = some rr), r9 Tryz.prog 84 [j6 cs, (z7 1 iD) t, iD x7, q9 r, iD depth] [(z7 1 iD) rr.1, bD rr.2]
 | 0, _, _, _, _, _, _, h => by cases h
 | fu + 1, cs, t, x7, r, depth, rr, h => by
  have ih : ∀ {cs : TyA} {t : q7} {x7 : Int} {r : Ty8} {depth : Int}, y3 (v6 fu cs t x7 r depth) fun rr => r9 Tryz.prog 84 [j6 cs, (z7 1 iD) t, iD x7, q9 r, iD depth] [(z7 1 iD) rr.1, bD rr.2] := ⟨fun h => q2i h⟩
  unfold v6 at h
  refine fn84.pureLN (q6 ?_)
  delta mc84
  refine v5 ?_
  refine dC h fun r_1 hr_1 h => ?_
  refine dCN h fun r_2 hr_2 h => ?_
  refine ndI h fun hp h => ?_
  refine y7q (by kernel_rfl) (v5 ?_)
  refine iT h fun hc h => ?_
  refine it h (fun hc h => ?_) fun hc h => ?_
  ·refine iF h fun hc h => ?_
   refine s9 h [10, 11, 15, 16, 17, 18, 49, 50, 51, 52, 53, 54, 55, 56, 57, 58, 59, 60, 61, 62, 63, 64, 65, 66, 67, 68, 69, 70, 71, 72, 73, 74, 75, 76, 77, 78, 79, 80, 81, 82, 83, 84, 85] (fun pp => [(49, .d (iD pp.1))]) (fun pp => [(5, .obj 74 [.d (z7 1 iD cs.1), .d (z7 3 q9 cs.2)]), (8, .obj 136 [.d (z7 1 iD r.1), .d (z7 1 iD r.2.1), .d (z7 2 y5 r.2.2)]), (12, .obj 204 (List.map (aD (nzD 1 iD)) pp.2))]) ?_
   rintro ⟨v49, b⟩ t1 h hb1
   unfold u8 at h
   try dsimp only at h
   refine q6 (v5 ?_)
   refine iT h fun hc h => ?_
   refine ndI h fun hp h => ?_
   refine ndI h fun hp h => ?_
   refine dC h fun r_3 hr_3 h => ?_
   refine dCN h fun r_4 hr_4 h => ?_
   refine y7q (by kernel_rfl) (v5 ?_)
   refine iT h fun hc h => ?_
   refine rCN h fun r_5 hr_5 h => ?_
   refine iT h fun hc h => ?_
   refine ndI h fun hp h => ?_
   refine rCN h fun r_6 hr_6 h => ?_
   refine ndI h fun hp h => ?_
   refine iT h fun hc h => ?_
   cases h
   refine ⟨_, rfl, ?_⟩
   refine (y0.drop 15 (by omega)).trans ?_
   exact wk
  refine s9 h [10, 11, 15, 16, 17, 18, 49, 50, 51, 52, 53, 54, 55, 56, 57, 58, 59, 60, 61, 62, 63, 64, 65, 66, 67, 68, 69, 70, 71, 72, 73, 74, 75, 76, 77, 78, 79, 80, 81, 82, 83, 84, 85] (fun pp => [(49, .d (iD pp.1))]) (fun pp => [(5, .obj 74 [.d (z7 1 iD cs.1), .d (z7 3 q9 cs.2)]), (8, .obj 136 [.d (z7 1 iD r.1), .d (z7 1 iD r.2.1), .d (z7 2 y5 r.2.2)]), (12, .obj 204 (List.map (aD (nzD 1 iD)) pp.2))]) ?_
  rintro ⟨v49_1, b_1⟩ t1 h hb1
  unfold g1q at h
  try dsimp only at h
  refine q6 (v5 ?_)
  refine iT h fun hc h => ?_
  refine ndI h fun hp h => ?_
  refine ndI h fun hp h => ?_
  refine dC h fun r_10 hr_10 h => ?_
  refine dCN h fun r_11 hr_11 h => ?_
  refine y7q (by kernel_rfl) (v5 ?_)
  refine iT h fun hc h => ?_
  refine rCN h fun r_12 hr_12 h => ?_
  refine iT h fun hc h => ?_
  refine ndI h fun hp h => ?_
  refine rCN h fun r_13 hr_13 h => ?_
  refine ndI h fun hp h => ?_
  refine iT h fun hc h => ?_
  cases h
  refine ⟨_, rfl, ?_⟩
  refine (y0.drop 15 (by omega)).trans ?_
  exact wk
instance k8r {cs : TyA} {t : q7} {x7 : Int} {r : Ty8} {depth : Int} : y3 (i7 cs t x7 r depth) fun rr => r9 Tryz.prog 84 [j6 cs, (z7 1 iD) t, iD x7, q9 r, iD depth] [(z7 1 iD) rr.1, bD rr.2] := ⟨fun h => q2i (q2n h).choose_spec⟩
def mc30 : j5 :=
 (.seq (.reg (sq 5 [bo 5 74 0] ++ sq 10 [.mv (.const (.slice none 0 0)), mb false])) (.seq (.seq (.reg (sq 12 [la 2 5, mv 1, mv 4, cf 83 [12, 13, 14], nt 15, mv 16] ++ sg 17 false 18 [mv 2, bi .lss 18 0] ++ sq 20 [po 17 19, mv 20] ++ sg 21 false 22 [mv 2, mv 1, ln 23, bn .geq 22 24] ++ sq 26 [po 21 25, mv 26] ++ sg 27 false 28 [mv 3, bi .lss 28 0] ++ sq 30 [po 27 29, mv 30] ++ sg 31 false 32 [mv 3, fa 1 5, ld 33, ln 34, bn .geq 32 35] ++ sq 37 [po 31 36])) (.cond (t0 37) (.seq (.reg (sq 10 [.mv (.const (.slice none 0 0)), mb false])) .ret) .skip)) (.seq (.draw (sq 38 [la 2 5, mv 1, mv 2, fa 1 5, ld 41, mv 3, ix 3 42 43, la 3 44, mv 4, cf 84 [38, 39, 40, 45, 46], ex 47 0, ex 47 1] ++ sq 10 [mv 48, mv 49]) [[], [], [], [], [3], [], [4, 5], [6], [], [0, 1, 2, 7, 8], [9], [9], [10, 9, 0, 1, 2, 3, 4, 5, 6, 7, 8, 9, 10, 11], [11, 12, 0, 1, 2, 3, 4, 5, 6, 7, 8, 9, 10, 11, 12]]) .ret)))
theorem fn30 : t6 Tryz.prog 30 mc30 50 [.tmp 10, .tmp 11] := mf Tryz.func30 Tryz.ntmps30
def c1q (cs : TyA) (t : q7) (x7 : Int) (rule : Int) (depth : Int) : Option (q7 × Bool) :=
 (z9q cs t depth).bind fun r =>
 if r = true then
  if (decide (x7 < 0)) = true then
   some ([], false)
  else
   if (decide ((t.length : Int) <= x7)) = true then
    some ([], false)
   else
    if (decide (rule < 0)) = true then
     some ([], false)
    else
     if (decide ((cs.2.length : Int) <= rule)) = true then
      some ([], false)
     else
      if 0 <= rule /\ rule < (cs.2.length : Int) then
       (i7 cs t x7 ((cs.2.getD rule.toNat default).1, (cs.2.getD rule.toNat default).2.1, (cs.2.getD rule.toNat default).2.2) depth).bind fun r_1 =>
       some r_1
      else none
 else
  some ([], false)
instance j7j {cs : TyA} {t : q7} {x7 : Int} {rule : Int} {depth : Int} : y3 (c1q cs t x7 rule depth) fun rr => r9 Tryz.prog 30 [j6 cs, (z7 1 iD) t, iD x7, iD rule, iD depth] [(z7 1 iD) rr.1, bD rr.2] := ⟨@fun rr h => by
 delta c1q at h
 refine fn30.pureLN (q6 ?_)
 delta mc30
 refine v5 ?_
 exact aut⟩
def u5q : j5 :=
 (.seq (.reg (sq 2 [.mv (.const (.slice none 0 0))])) (.seq (.seq (.reg (sq 3 [mv 0, .eqnil false (t0 3)])) (.cond (t0 4) (.seq (.reg (sq 2 [.mv (.const (.slice none 0 0))])) .ret) .skip)) (.seq (.reg (sq 5 [.bslg 5 2 1 [], mv 0, ap 7 2 1 8 5 6] ++ sq 2 [mv 7])) .ret)))
theorem s8q : t6 Tryz.prog 121 u5q 8 [.tmp 2] := mf Tryz.func121 Tryz.ntmps121
def n8 (s : q7) : Option q7 :=
 x5v s (
  some []) (
  if (0 + s.length) * 8 <= 140737488355328 then
   some s
  else none)
instance k2z {s : q7} : y3 (n8 s) fun rr => x6 Tryz.prog 121 [.d (z7 1 iD s)] [] 0 fun xx ss => xx = .gow 1 900000 rr.length /\ ss = [(900000, .gro 2 1 rr.length (q0o iD rr))] := ⟨@fun rr h => by
 delta n8 at h
 refine s8q.callsD (q6 ?_)
 delta u5q
 refine v5 ?_
 have h1 := k8m h
 refine z0s.of (fun he => ?_) ?_
 ·replace h := h1.1 (by simpa using he)
  clear h1
  refine v5 ?_
  cases h
  exact x9.trans ((x9.thawN 900000 2 1 (.gow 1 900000 0) (by simp [sat]) (by repeat' (first | exact TL.nil | refine TL.tup ?_ | refine TL.aggD ?_ | refine TL.agg ?_ | refine TLs.cons ?_ ?_ | exact TLs.nil | exact TL.refl)))) (x9.told frd don)
 ·replace h := h1.2
  clear h1
  refine v5 ?_
  refine ndI h fun hp h => ?_
  cases h
  exact x9.trans ((x9.move 5 900000 (ob := .gro 2 1 s.length (q0o iD s)) (by omega) (by omega) (by omega) rfl (by first | rfl | (simp; done) | (simp [sat, q0m, j8, p8, k3f, k0m, Ob.ren, Ob.kill, m8]; done)))) (x9.told frd don)⟩
def y5a : j5 :=
 (.seq (.reg (sq 2 [.mv (.const (.slice none 0 0))])) (.seq (.reg (sq 3 [.mv (.const (.slice none 0 0))])) (.seq (.seq (.reg (sq 4 [mi 0])) (.block 0 (.loop (.seq (.seq (.reg (sq 5 [mv 4, bi .lss 5 24])) (.cond (t0 6) .skip (.exit 0))) (.seq (.block 1 (.seq (.reg (sq 9 [mv 0, mv 4, .bin .sub (i0 (-1)) (t0 10), cf 228 [9, 11]])) (.cond (t0 12) (.reg (sq 13 [mv 3, mv 4, .bsl 15 2 1 [(t0 14)], ap 16 2 1 8 13 15] ++ sq 3 [mv 16])) .skip))) (.reg (sq 7 [mv 4, bi .add 7 1] ++ sq 4 [mv 8]))))))) (.seq (.reg (sq 17 [mv 3] ++ sq 2 [mv 17])) .ret))))
theorem fn227 : t6 Tryz.prog 227 y5a 18 [.tmp 2] := mf Tryz.func227 Tryz.ntmps227
def f4q (t : q7) : (q7 × Int) -> Option ((q7 × Int) ⊕ q7)
 | (out, i) =>
  if (decide (i < 24)) = true then
   (m5 t (IntKind.i64.wrap ((-1) - i))).bind fun r =>
   if r = true then
    if (out.length + 1) * 8 <= 140737488355328 then
     some (.inl ((out ++ [i]), (IntKind.i64.wrap (i + 1))))
    else none
   else
    some (.inl (out, (IntKind.i64.wrap (i + 1))))
  else
   Option.map Sum.inr (
    some out)
def n7q (t : q7) : Option q7 :=
 loopC (f4q t) ([], 0)
instance j9l {t : q7} : y3 (n7q t) fun rr => p7 Tryz.prog 227 [(z7 1 iD) t] ((z7 1 iD) rr) := ⟨@fun rr h => by
 delta n7q at h
 refine fn227.pureL (q6 ?_)
 delta y5a
 refine v5 ?_
 refine w5q h [3, 4, 5, 6, 7, 8, 9, 10, 11, 12, 13, 14, 15, 16] (fun pp => [(3, .own 1 16 (List.map iD pp.1)), (4, .d (iD pp.2))]) (fun pp => [(16, .tok 2 1 pp.1.length)]) ?_ ?_
 ·try dsimp only
  refine (y0.thaw 3 16 2 1 rfl rfl).trans ?_
  exact wk
 rintro ⟨out, i⟩ t1 h hb1
 unfold f4q at h
 try dsimp only at h
 refine q6 (v5 ?_)
 refine iT h fun hc h => ?_
 refine rC h fun r hr h => ?_
 refine iT h fun hc h => ?_
 refine ndI h fun hp h => ?_
 cases h
 refine ⟨_, rfl, ?_⟩
 refine (y0.drop 15 (by omega)).trans ?_
 exact wk⟩
def q0i : j5 :=
 (.seq (.reg (sq 2 [bo 2 136 0] ++ sq 4 [.mv (.const (.slice none 0 0))])) (.seq (.draw (sq 12 [fa 0 2, ld 12, cf 121 [13], fa 2 2, ld 15, mv 1, ix 2 16 17, fa 1 18, ld 19, fa 1 2, ld 21, .bsl 23 22 1 [(t0 20), (t0 22)], cf 194 [23]] ++ sq 5 [mv 14, mv 24]) [[], [0], [1], [], [3], [], [4, 5], [6], [7], [], [9], [8, 10], [11, 2], [2, 12, 0, 1, 2], [12, 13, 0, 1, 2, 3, 4, 5, 6, 7, 8, 9, 10, 11, 12, 13]]) (.seq (.seq (.reg (sq 25 [fa 2 2, ld 25, ln 26, mi 0])) (.block 0 (.loop (.seq (.reg (sq 29 [bn .lss 28 27])) (.seq (.cond (t0 29) .skip (.exit 0)) (.seq (.block 1 (.seq (.reg (sq 30 [mv 28, ix 2 26 28, la 2 31] ++ sq 8 [.alloc 8 208 [.sl 0 (some true) [], .sl 0 (some true) []]] ++ sq 7 [mv 30] ++ s0 (sr 2 8 32))) (.seq (.seq (.reg (sq 33 [mv 7, mv 1, bn .lss 33 34])) (.cond (t0 35) (.reg (sq 36 [mv 5, fa 1 8, ld 37, ap 39 2 1 8 36 38] ++ sq 5 [mv 39])) .skip)) (.seq (.reg (sq 40 [mv 7, mv 1, bn .gtr 40 41])) (.cond (t0 42) (.reg (sq 43 [mv 6, fa 0 8, ld 44, fa 1 8, ld 46, .bsl 48 22 1 [(t0 43), (t0 45), (t0 47)], cf 194 [48]] ++ sq 6 [mv 49])) .skip))))) (.reg (sq 50 [bi .add 28 1] ++ sq 28 [mv 50])))))))) (.seq (.reg (sq 9 [.mv (.const (.slice none 0 0))])) (.seq (.seq (.ghost (.reg (sq 51 [mv 5, cf 227 [51], ln 52, mi 0]))) (.block 2 (.loop (.seq (.reg (sq 55 [bn .lss 54 53])) (.seq (.cond (t0 55) .skip (.exit 2)) (.seq (.block 3 (.seq (.reg (sq 56 [ix 1 52 54, ld 56] ++ sq 11 [mv 57])) (.seq (.reg (sq 58 [mv 6, mv 11, .bin .sub (i0 (-1)) (t0 59), cf 228 [58, 60]])) (.cond (t0 61) (.reg (sq 62 [mv 9, mv 11, .bsl 64 2 1 [(t0 63)], ap 65 2 1 8 62 64] ++ sq 9 [mv 65])) .skip)))) (.reg (sq 66 [bi .add 54 1] ++ sq 54 [mv 66])))))))) (.seq (.reg (sq 67 [mv 9] ++ sq 4 [mv 67])) .ret))))))
theorem q6l : t6 Tryz.prog 164 q0i 68 [.tmp 4] := mf Tryz.func164 Tryz.ntmps164
def q6q (behind : q7) (r_5 : q7) : (q7 × Int) -> Option ((q7 × Int) ⊕ q7)
 | (out, v54) =>
  if (decide (v54 < (r_5.length : Int))) = true then
   if 0 <= v54 /\ v54 < (r_5.length : Int) then
    (m5 behind (IntKind.i64.wrap ((-1) - (r_5.getD v54.toNat default)))).bind fun r_6 =>
    if r_6 = true then
     if (out.length + 1) * 8 <= 140737488355328 then
      some (.inl ((out ++ [(r_5.getD v54.toNat default)]), (IntKind.i64.wrap (v54 + 1))))
     else none
    else
     some (.inl (out, (IntKind.i64.wrap (v54 + 1))))
   else none
  else
   Option.map Sum.inr (
    some out)
def z1q (r : Ty8) (cond : Int) : (q7 × Int × q7) -> Option ((q7 × Int × q7) ⊕ q7)
 | (behind, v28, g14) =>
  if (decide (v28 < (r.2.2.length : Int))) = true then
   if 0 <= v28 /\ v28 < (r.2.2.length : Int) then
    if (decide (v28 < cond)) = true then
     if (g14.length + ((r.2.2.getD v28.toNat default).2).length) * 8 <= 140737488355328 then
      if (decide (cond < v28)) = true then
       (y6 [behind, (r.2.2.getD v28.toNat default).1, (r.2.2.getD v28.toNat default).2]).bind fun r_3 =>
       some (.inl (r_3, (IntKind.i64.wrap (v28 + 1)), (g14 ++ (r.2.2.getD v28.toNat default).2)))
      else
       some (.inl (behind, (IntKind.i64.wrap (v28 + 1)), (g14 ++ (r.2.2.getD v28.toNat default).2)))
     else none
    else
     if (decide (cond < v28)) = true then
      (y6 [behind, (r.2.2.getD v28.toNat default).1, (r.2.2.getD v28.toNat default).2]).bind fun r_4 =>
      some (.inl (r_4, (IntKind.i64.wrap (v28 + 1)), g14))
     else
      some (.inl (behind, (IntKind.i64.wrap (v28 + 1)), g14))
   else none
  else
   Option.map Sum.inr (
    (n7q g14).bind fun r_5 =>
    loopC (q6q behind r_5) ([], 0))
def v0q (r : Ty8) (cond : Int) : Option q7 :=
 (n8 r.1).bind fun r_1 =>
 if 0 <= cond /\ cond < (r.2.2.length : Int) then
  (y6 [(r.2.2.getD cond.toNat default).2, r.2.1]).bind fun r_2 =>
  loopC (z1q r cond) (r_2, 0, r_1)
 else none
instance z9d {r : Ty8} {cond : Int} : y3 (v0q r cond) fun rr => p7 Tryz.prog 164 [q9 r, iD cond] ((z7 1 iD) rr) := ⟨@fun rr h => by
 delta v0q at h
 refine q6l.pureL (q6 ?_)
 delta q0i
 refine v5 ?_
 refine dCo [] [(900000, 14)] h fun r_1 hr_1 h => ?_
 refine ndI h fun hp h => ?_
 refine dCo [] [(24, 24)] h fun r_2 hr_2 h => ?_
 refine y7q (by kernel_rfl) (v5 ?_)
 refine s9 h [5, 6, 7, 8, 28, 29, 30, 31, 32, 33, 34, 35, 36, 37, 38, 39, 40, 41, 42, 43, 44, 45, 46, 47, 48, 49, 50] (fun pp => [(5, .gow 1 14 pp.2.2.length), (6, .d (z7 1 iD pp.1)), (28, .d (iD pp.2.1))]) (fun pp => [(2, .obj 136 [.d (z7 1 iD r.1), .d (z7 1 iD r.2.1), .d (z7 2 y5 r.2.2)]), (14, .gro 2 1 pp.2.2.length (q0o iD pp.2.2)), (23, .tok 22 1 2), (24, .tok 2 1 r_2.length)]) ?_
 rintro ⟨behind, v28, g14⟩ t1 h hb1
 unfold z1q at h
 try dsimp only at h
 refine q6 (v5 ?_)
 refine it h (fun hc h => ?_) fun hc h => ?_
 ·refine ndI h fun hp h => ?_
  refine it h (fun hc h => ?_) fun hc h => ?_
  ·refine ndI h fun hp h => ?_
   refine it h (fun hc h => ?_) fun hc h => ?_
   ·refine rCo [] [(24, 49)] h fun r_3 hr_3 h => ?_
    cases h
    refine ⟨_, rfl, ?_⟩
    refine (y0.drop 8 (by omega)).trans ?_
    refine (y0.drop 48 (by omega)).trans ?_
    refine (y0.drop 49 (by omega)).trans ?_
    exact wk
   cases h
   refine ⟨_, rfl, ?_⟩
   refine (y0.drop 8 (by omega)).trans ?_
   exact wk
  refine it h (fun hc h => ?_) fun hc h => ?_
  ·refine rCo [] [(24, 49)] h fun r_4 hr_4 h => ?_
   cases h
   refine ⟨_, rfl, ?_⟩
   refine (y0.drop 8 (by omega)).trans ?_
   refine (y0.drop 48 (by omega)).trans ?_
   refine (y0.drop 49 (by omega)).trans ?_
   exact wk
  cases h
  refine ⟨_, rfl, ?_⟩
  refine (y0.drop 8 (by omega)).trans ?_
  exact wk
 replace h := u9 h hb1
 refine p5q.of ((y0.fz 14 iD rfl g14)) ?_
 refine stpf ?_
 refine v5 ?_
 refine rC h fun r_5 hr_5 h => ?_
 refine w5q h [9, 11, 54, 55, 56, 57, 58, 59, 60, 61, 62, 63, 64, 65, 66] (fun pp => [(9, .own 1 65 (List.map iD pp.1)), (54, .d (iD pp.2))]) (fun pp => [(2, .obj 136 [.d (z7 1 iD r.1), .d (z7 1 iD r.2.1), .d (z7 2 y5 r.2.2)]), (23, .tok 22 1 2), (24, .tok 2 1 r_2.length), (65, .tok 2 1 pp.1.length)]) ?_ ?_
 ·try dsimp only
  refine (y0.thaw 9 65 2 1 rfl rfl).trans ?_
  exact wk
 rintro ⟨out, v54⟩ t1 h hb1
 unfold q6q at h
 try dsimp only at h
 refine q6 (v5 ?_)
 refine iT h fun hc h => ?_
 refine ndI h fun hp h => ?_
 refine rC h fun r_6 hr_6 h => ?_
 refine iT h fun hc h => ?_
 refine ndI h fun hp h => ?_
 cases h
 refine ⟨_, rfl, ?_⟩
 refine (y0.drop 64 (by omega)).trans ?_
 exact wk⟩
def y3w : j5 :=
 (.seq (.reg (sq 6 [.mv (.const (.slice none 0 0))])) (.seq (.reg (sq 10 [mv 0, .bsl 11 2 1 [(t0 10)], mv 1, .bsl 13 22 1 [(t0 11), (t0 12)], cf 194 [13]] ++ sq 7 [mv 14])) (.seq (.seq (.reg (sq 15 [mv 2, ln 15, mi 0])) (.block 0 (.loop (.seq (.reg (sq 18 [bn .lss 17 16])) (.seq (.cond (t0 18) .skip (.exit 0)) (.seq (.block 1 (.seq (.reg (sq 19 [ix 1 15 17, ld 19] ++ sq 9 [mv 20])) (.reg (sq 21 [mv 7, mv 9, .bin .sub (i0 (-1)) (t0 22), .bsl 24 2 1 [(t0 23)], ap 25 2 1 8 21 24] ++ sq 7 [mv 25])))) (.reg (sq 26 [bi .add 17 1] ++ sq 17 [mv 26])))))))) (.seq (.reg (sq 27 [mv 7] ++ sq 6 [mv 27])) .ret))))
theorem fn165 : t6 Tryz.prog 165 y3w 28 [.tmp 6] := mf Tryz.func165 Tryz.ntmps165
def t3q (vars : q7) : (q7 × Int) -> Option ((q7 × Int) ⊕ q7)
 | (out, v17) =>
  if (decide (v17 < (vars.length : Int))) = true then
   if 0 <= v17 /\ v17 < (vars.length : Int) then
    if (out.length + 1) * 8 <= 140737488355328 then
     some (.inl ((out ++ [(IntKind.i64.wrap ((-1) - (vars.getD v17.toNat default)))]), (IntKind.i64.wrap (v17 + 1))))
    else none
   else none
  else
   Option.map Sum.inr (
    some out)
def r2q (symbol : Int) (t : q7) (vars : q7) : Option q7 :=
 (y6 [[symbol], t]).bind fun r =>
 loopC (t3q vars) (r, 0)
instance x3x {symbol : Int} {t : q7} {vars : q7} : y3 (r2q symbol t vars) fun rr => p7 Tryz.prog 165 [iD symbol, (z7 1 iD) t, (z7 1 iD) vars] ((z7 1 iD) rr) := ⟨@fun rr h => by
 delta r2q at h
 refine fn165.pureL (q6 ?_)
 delta y3w
 refine v5 ?_
 refine rCo [] [(24, 14)] h fun r hr h => ?_
 refine s9 h [7, 9, 17, 18, 19, 20, 21, 22, 23, 24, 25, 26] (fun pp => [(7, .own 1 14 (List.map iD pp.1)), (17, .d (iD pp.2))]) (fun pp => [(11, .tok 2 1 1), (13, .tok 22 1 2), (14, .tok 2 1 pp.1.length)]) ?_
 rintro ⟨out, v17⟩ t1 h hb1
 unfold t3q at h
 try dsimp only at h
 refine q6 (v5 ?_)
 refine iT h fun hc h => ?_
 refine ndI h fun hp h => ?_
 refine ndI h fun hp h => ?_
 cases h
 refine ⟨_, rfl, ?_⟩
 refine (y0.drop 24 (by omega)).trans ?_
 exact wk⟩
def o7q : j5 :=
 (.seq (.reg (sq 1 [bo 1 74 0, .alloc 2 46 [.sl 0 (some true) [], .sl 0 (some true) []], mb false])) (.seq (.reg (sq 12 [fa 0 1, fa 0 12, ld 13, cf 121 [14], .build [.sl 0 (some true) []] [(0, 1, (t0 15))], .build [.sl 0 (some true) [], .sl 0 (some true) []] [(0, 1, (t0 16))]] ++ sq 4 [.alloc 4 46 [.sl 0 (some true) [], .sl 0 (some true) []]] ++ s0 (sr 2 4 17))) (.seq (.seq (.reg (sq 18 [fa 1 1, ld 18, ln 19, mi 0])) (.block 0 (.loop (.seq (.reg (sq 22 [bn .lss 21 20])) (.seq (.cond (t0 22) .skip (.exit 0)) (.seq (.block 1 (.seq (.reg (sq 23 [ix 3 19 21, la 3 23] ++ sq 6 [.alloc 6 136 [.sl 0 (some true) [], .sl 0 (some true) [], .sl 0 (some true) []]] ++ s0 (sr 3 6 24))) (.seq (.reg (sq 25 [fa 0 6, ld 25, cf 121 [26]] ++ sq 7 [mv 27])) (.seq (.seq (.reg (sq 28 [fa 2 6, ld 28, ln 29, mi 0])) (.block 2 (.loop (.seq (.reg (sq 32 [bn .lss 31 30])) (.seq (.cond (t0 32) .skip (.exit 2)) (.seq (.block 3 (.seq (.reg (sq 33 [mv 31, ix 2 29 31, la 2 34] ++ sq 9 [.alloc 9 208 [.sl 0 (some true) [], .sl 0 (some true) []]] ++ sq 8 [mv 33] ++ s0 (sr 2 9 35))) (.seq (.draw (sq 36 [fa 0 4, fa 0 36, ld 37, ln 38, la 3 6, mv 8, cf 164 [40, 41]] ++ sq 10 [mv 39, mv 42]) [[], [0], [1], [2], [], [], [4, 5], [3, 6, 0, 1, 2, 3], [6, 7, 0, 1, 2, 3, 4, 5, 6, 7]]) (.seq (.reg (sq 43 [fa 0 4, fa 0 43, ld 44, mv 11, ln 46, .bin .add (i0 1) (t0 47), .bsl 49 2 1 [(t0 48)], ap 50 2 1 8 45 49, fa 0 4, fa 0 51] ++ s0 (sr 1 52 50))) (.seq (.draw (sq 53 [fa 1 4, ld 53, mv 7, mv 10, fa 0 9, ld 57, mv 11, cf 165 [56, 58, 59], .build [.sl 0 (some true) [], .sl 0 (some true) []] [(0, 1, (t0 55)), (1, 1, (t0 60))], .bsl 62 147 2 [(t0 61)], ap 63 147 2 48 54 62, fa 1 4] ++ s0 (sr 1 64 63)) [[], [0], [], [], [], [4], [], [3, 5, 6], [2, 7], [8], [1, 9, 7], [0, 1, 2, 3, 4, 5, 6, 7, 8, 9, 10], [11, 10, 10, 0, 1, 2, 3, 4, 5, 6, 7, 8, 9, 10]]) (.reg (sq 65 [mv 10, fa 1 9, ld 66, mv 11, cf 165 [65, 67, 68]] ++ sq 7 [mv 69]))))))) (.reg (sq 70 [bi .add 31 1] ++ sq 31 [mv 70])))))))) (.draw (sq 71 [fa 1 4, ld 71, mv 7, fa 1 6, ld 74, cf 121 [75], .build [.sl 0 (some true) [], .sl 0 (some true) []] [(0, 1, (t0 73)), (1, 1, (t0 76))], .bsl 78 147 2 [(t0 77)], ap 79 147 2 48 72 78, fa 1 4] ++ s0 (sr 1 80 79)) [[], [0], [], [], [3], [4], [2, 5], [6], [1, 7, 5], [0, 1, 2, 3, 4, 5, 6, 7, 8], [9, 8, 8, 0, 1, 2, 3, 4, 5, 6, 7, 8]]))))) (.reg (sq 81 [bi .add 21 1] ++ sq 21 [mv 81])))))))) (.seq (.ghost (.draw (sq 82 [la 2 4, la 2 4, cf 119 [83]] ++ s0 (sr 2 2 82) ++ sq 3 [mv 84]) [[], [], [1], [0, 2, 0], [2, 3, 0, 1, 2, 3]])) .ret))))
theorem q3l : t6 Tryz.prog 88 o7q 85 [.cell 2 2 true, .tmp 3] := mf Tryz.func88 Tryz.ntmps88
def t8 (cs : TyA) (v21 : Int) : (q7 × Int × q7 × Ty3) -> Option ((q7 × Int × q7 × Ty3) ⊕ ((Int × q7 × Ty3) ⊕ (Ty6 × Bool)))
 | (left, v31, g15_1, out_1) =>
  if (decide (v31 < (((cs.2.getD v21.toNat default).2.2).length : Int))) = true then
   if 0 <= v31 /\ v31 < (((cs.2.getD v21.toNat default).2.2).length : Int) then
    (v0q ((cs.2.getD v21.toNat default).1, (cs.2.getD v21.toNat default).2.1, (cs.2.getD v21.toNat default).2.2) v31).bind fun r_2 =>
    if (g15_1.length + 1) * 8 <= 140737488355328 then
     (r2q (g15_1.length : Int) ((((cs.2.getD v21.toNat default).2.2).getD v31.toNat default).1) r_2).bind fun r_3 =>
     if (out_1.length + 1) * 48 <= 140737488355328 then
      (r2q (g15_1.length : Int) ((((cs.2.getD v21.toNat default).2.2).getD v31.toNat default).2) r_2).bind fun r_4 =>
      some (.inl (r_4, (IntKind.i64.wrap (v31 + 1)), (g15_1 ++ [(IntKind.i64.wrap (1 + (r_2.length : Int)))]), (out_1 ++ [(left, r_3)])))
     else none
    else none
   else none
  else
   Option.map Sum.inr (
    (y7 ((cs.2.getD v21.toNat default).2.1)).bind fun r_5 =>
    if (out_1.length + 1) * 48 <= 140737488355328 then
     some (.inl ((IntKind.i64.wrap (v21 + 1)), g15_1, (out_1 ++ [(left, r_5)])))
    else none)
def k0q (cs : TyA) : (Int × q7 × Ty3) -> Option ((Int × q7 × Ty3) ⊕ (Ty6 × Bool))
 | (v21, g15, out) =>
  if (decide (v21 < (cs.2.length : Int))) = true then
   if 0 <= v21 /\ v21 < (cs.2.length : Int) then
    (y7 ((cs.2.getD v21.toNat default).1)).bind fun r_1 =>
    loopC (t8 cs v21) (r_1, 0, g15, out)
   else none
  else
   Option.map Sum.inr (
    (x1q (g15, out)).bind fun r_6 =>
    some ((g15, out), r_6))
def j0q (cs : TyA) : Option (Ty6 × Bool) :=
 (n8 cs.1).bind fun r =>
 loopC (k0q cs) (0, r, [])
instance z0p {cs : TyA} : y3 (j0q cs) fun rr => r9 Tryz.prog 88 [j6 cs] [d5 rr.1, bD rr.2] := ⟨@fun rr h => by
 delta j0q at h
 refine q3l.pureLN (q6 ?_)
 delta o7q
 refine v5 ?_
 refine rCo [] [(900000, 15)] h fun r hr h => ?_
 refine w5q h [6, 7, 8, 9, 10, 11, 21, 22, 23, 24, 25, 26, 27, 28, 29, 30, 31, 32, 33, 34, 35, 36, 37, 38, 39, 40, 41, 42, 43, 44, 45, 46, 47, 48, 49, 50, 51, 52, 53, 54, 55, 56, 57, 58, 59, 60, 61, 62, 63, 64, 65, 66, 67, 68, 69, 70, 71, 72, 73, 74, 75, 76, 77, 78, 79, 80, 81] (fun pp => [(21, .d (iD pp.1))]) (fun pp => [(1, .obj 74 [.d (z7 1 iD cs.1), .d (z7 3 q9 cs.2)]), (2, .obj 46 [.d (.sl 0 (some true) []), .d (.sl 0 (some true) [])]), (4, .obj 46 [.gow 1 15 pp.2.1.length, .own 2 63 (List.map v7 pp.2.2)]), (15, .gro 2 1 pp.2.1.length (q0o iD pp.2.1)), (63, .tok 147 2 pp.2.2.length)]) ?_ ?_
 ·try dsimp only
  refine (y0.thawCell 4 1 63 147 2 rfl rfl rfl).trans ?_
  exact wk
 rintro ⟨v21, g15, out⟩ t1 h hb1
 unfold k0q at h
 try dsimp only at h
 refine q6 (v5 ?_)
 refine it h (fun hc h => ?_) fun hc h => ?_
 ·refine ndI h fun hp h => ?_
  refine rC h fun r_1 hr_1 h => ?_
  refine s9 h [7, 8, 9, 10, 11, 31, 32, 33, 34, 35, 36, 37, 38, 39, 40, 41, 42, 43, 44, 45, 46, 47, 48, 49, 50, 51, 52, 53, 54, 55, 56, 57, 58, 59, 60, 61, 62, 63, 64, 65, 66, 67, 68, 69, 70] (fun pp => [(7, .d (z7 1 iD pp.1)), (31, .d (iD pp.2.1))]) (fun pp => [(1, .obj 74 [.d (z7 1 iD cs.1), .d (z7 3 q9 cs.2)]), (2, .obj 46 [.d (.sl 0 (some true) []), .d (.sl 0 (some true) [])]), (4, .obj 46 [.gow 1 15 pp.2.2.1.length, .own 2 63 (List.map v7 pp.2.2.2)]), (6, .obj 136 [.d (z7 1 iD ((cs.2.getD v21.toNat default).1)), .d (z7 1 iD ((cs.2.getD v21.toNat default).2.1)), .d (z7 2 y5 ((cs.2.getD v21.toNat default).2.2))]), (15, .gro 2 1 pp.2.2.1.length (q0o iD pp.2.2.1)), (63, .tok 147 2 pp.2.2.2.length)]) ?_
  rintro ⟨left, v31, g15_1, out_1⟩ t2 h hb2
  unfold t8 at h
  try dsimp only at h
  refine q6 (v5 ?_)
  refine it h (fun hc h => ?_) fun hc h => ?_
  ·refine ndI h fun hp h => ?_
   refine dC h fun r_2 hr_2 h => ?_
   refine y7q (by kernel_rfl) (v5 ?_)
   refine ndI h fun hp h => ?_
   refine dC h fun r_3 hr_3 h => ?_
   refine ndI h fun hp h => ?_
   refine y7q (by kernel_rfl) (v5 ?_)
   refine rC h fun r_4 hr_4 h => ?_
   cases h
   refine ⟨_, rfl, ?_⟩
   refine (y0.drop 9 (by omega)).trans ?_
   refine (y0.drop 49 (by omega)).trans ?_
   refine (y0.drop 62 (by omega)).trans ?_
   exact wk
  replace h := u9 h hb2
  refine dC h fun r_5 hr_5 h => ?_
  refine ndI h fun hp h => ?_
  refine y7q (by kernel_rfl) (v5 ?_)
  cases h
  refine ⟨_, rfl, ?_⟩
  refine (y0.drop 6 (by omega)).trans ?_
  refine (y0.drop 78 (by omega)).trans ?_
  exact wk
 replace h := u9 h hb1
 refine p5q.of ((y0.fz 15 iD rfl g15)) ?_
 refine stpf ?_
 refine v5 ?_
 exact aut⟩
def y3x : j5 :=
 (.seq (.reg (sq 2 [bo 2 74 0] ++ sq 4 [mi 0])) (.seq (.reg (sq 5 [mi 0])) (.seq (.seq (.reg (sq 8 [fa 1 2, ld 8, mv 1, .slc (t0 9) 3 none (some (t0 10)) none, ln 11, mi 0])) (.block 0 (.loop (.seq (.reg (sq 14 [bn .lss 13 12])) (.seq (.cond (t0 14) .skip (.exit 0)) (.seq (.block 1 (.seq (.reg (sq 15 [ix 3 11 13, la 3 15] ++ sq 7 [.alloc 7 136 [.sl 0 (some true) [], .sl 0 (some true) [], .sl 0 (some true) []]] ++ s0 (sr 3 7 16))) (.reg (sq 17 [mv 5, fa 2 7, ld 18, ln 19, .bin .add (i0 1) (t0 20), bn .add 17 21] ++ sq 5 [mv 22])))) (.reg (sq 23 [bi .add 13 1] ++ sq 13 [mv 23])))))))) (.seq (.reg (sq 24 [mv 5] ++ sq 4 [mv 24])) .ret))))
theorem fn166 : t6 Tryz.prog 166 y3x 25 [.tmp 4] := mf Tryz.func166 Tryz.ntmps166
def q0q (cs : TyA) (rule : Int) : (Int × Int) -> Option ((Int × Int) ⊕ Int)
 | (start, v13) =>
  if (decide (v13 < ((cs.2.take rule.toNat).length : Int))) = true then
   if 0 <= v13 /\ v13 < ((cs.2.take rule.toNat).length : Int) then
    some (.inl ((IntKind.i64.wrap (start + (IntKind.i64.wrap (1 + ((((cs.2.take rule.toNat).getD v13.toNat default).2.2).length : Int))))), (IntKind.i64.wrap (v13 + 1))))
   else none
  else
   Option.map Sum.inr (
    some start)
def a8 (cs : TyA) (rule : Int) : Option Int :=
 if 0 <= rule /\ rule <= (cs.2.length : Int) then
  loopC (q0q cs rule) (0, 0)
 else none
instance k7d {cs : TyA} {rule : Int} : y3 (a8 cs rule) fun rr => p7 Tryz.prog 166 [j6 cs, iD rule] (iD rr) := ⟨@fun rr h => by
 delta a8 at h
 refine fn166.pureL (q6 ?_)
 delta y3x
 refine v5 ?_
 refine ndI h fun hp h => ?_
 refine s9 h [5, 7, 13, 14, 15, 16, 17, 18, 19, 20, 21, 22, 23] (fun pp => [(5, .d (iD pp.1)), (13, .d (iD pp.2))]) (fun pp => [(2, .obj 74 [.d (z7 1 iD cs.1), .d (z7 3 q9 cs.2)])]) ?_
 rintro ⟨start, v13⟩ t1 h hb1
 unfold q0q at h
 try dsimp only at h
 refine q6 (v5 ?_)
 refine iT h fun hc h => ?_
 refine ndI h fun hp h => ?_
 cases h
 refine ⟨_, rfl, ?_⟩
 refine (y0.drop 7 (by omega)).trans ?_
 exact wk⟩
def x1c : j5 :=
 (.seq (.reg (sq 5 [bo 5 46 1] ++ sq 8 [mb false])) (.seq (.draw (sq 12 [la 2 5, mv 0, .nilc (t0 13), la 2 14, cf 61 [15], mv 2, mv 3, cf 212 [12, 16, 17, 18]] ++ sq 11 [mv 19] ++ sq 20 [ex 11 0, ex 11 1] ++ sq 9 [mv 20, mv 21]) [[], [], [1], [2], [3], [], [], [0, 4, 5, 6, 4], [7], [8], [8], [9, 7, 0, 1, 2, 3, 4, 5, 6, 7, 8, 9], [10, 11, 0, 1, 2, 3, 4, 5, 6, 7, 8, 9, 10, 11]]) (.seq (.seq (.reg (sq 22 [mv 10, nt 22, mv 23] ++ sg 24 false 25 [mv 0, .nilc (t0 25), fa 1 26, ld 27, ln 28, bi .eql 29 60] ++ sq 31 [po 24 30])) (.cond (t0 31) (.seq (.reg (sq 8 [mb false])) .ret) .skip)) (.seq (.reg (sq 32 [mv 0, mv 2, mv 3, mv 9, .build [.lit (.int .i64 0), .lit (.int .i64 0), .sl 0 (some true) []] [(0, 1, (t0 33)), (1, 1, (t0 34)), (2, 1, (t0 35))], cf 122 [32, 36]])) (.seq (.reg (sq 8 [mb true])) .ret)))))
theorem x7g : t6 Tryz.prog 167 x1c 38 [.tmp 8] := mf Tryz.func167 Tryz.ntmps167
def i5 (sys : Ty6) (x7 : Int) (rule : Int) (w0 : q7) (w1 : Ty5) : Option (Bool × Ty5) :=
 (b8 (w0, w1)).bind fun r =>
 (m6q sys r x7 rule).bind fun r_1 =>
 if r_1.2 = true then
  if ((w1.length : Int) == 60) = true then
   some (false, w1)
  else
   (v6q (x7, rule, r_1.1) w0 w1).bind fun r_2 =>
   some (true, r_2)
 else
  some (false, w1)
instance z6i {sys : Ty6} {x7 : Int} {rule : Int} {w0 : q7} {w1 : Ty5} : y3 (i5 sys x7 rule w0 w1) fun rr => x6 Tryz.prog 167 [.ptr 0 0, .d (.agg [z7 1 iD sys.1, z7 2 v7 sys.2]), .d (iD x7), .d (iD rule)] [(0, .obj 40 [.d (z7 1 iD w0), .own 3 1 (List.map z5 w1)]), (1, .tok 151 3 w1.length)] 2 fun xx ss => xx = .d (bD rr.1) /\ ss = [(0, .obj 40 [.d (z7 1 iD w0), .own 3 1 (List.map z5 rr.2)]), (1, .tok 151 3 rr.2.length)] := ⟨@fun rr h => by
 delta i5 at h
 refine x7g.callsO (q6 ?_)
 delta x1c
 refine v5 ?_
 refine dC h fun r hr h => ?_
 refine dCN h fun r_1 hr_1 h => ?_
 refine y7q (by kernel_rfl) (v5 ?_)
 refine it h (fun hc h => ?_) fun hc h => ?_
 ·refine it h (fun hc h => ?_) fun hc h => ?_
  ·cases h
   exact ⟨[5], by simp, don, don⟩
  refine rCo [(0, 0), (1, 1)] [] h fun r_2 hr_2 h => ?_
  cases h
  exact ⟨[5], by simp, don, don⟩
 cases h
 exact ⟨[5], by simp, don, don⟩⟩
def c3q (cs : TyA) (t : q7) (depth : Int) (best : Int) (rule : Int) (to : q7) (lowest : Int) (x7 : Int) : Int -> Option (Int ⊕ ((Int × Int × q7 × Int × Int) ⊕ Ty4))
 | v44 =>
  if (decide (v44 < (cs.2.length : Int))) = true then
   if 0 <= v44 /\ v44 < (cs.2.length : Int) then
    (i7 cs t x7 ((cs.2.getD v44.toNat default).1, (cs.2.getD v44.toNat default).2.1, (cs.2.getD v44.toNat default).2.2) depth).bind fun r_1 =>
    if r_1.2 = true then
     Option.map Sum.inr (
      some (.inl (x7, v44, r_1.1, x7, (IntKind.i64.wrap (x7 - 1)))))
    else
     some (.inl (IntKind.i64.wrap (v44 + 1)))
   else none
  else
   Option.map Sum.inr (
    some (.inl (best, rule, to, lowest, (IntKind.i64.wrap (x7 - 1)))))
def c2q (cs : TyA) (t : q7) (depth : Int) : (Int × Int × q7 × Int × Int) -> Option ((Int × Int × q7 × Int × Int) ⊕ Ty4)
 | (best, rule, to, lowest, x7) =>
  if (decide (0 <= x7)) = true then
   if 0 <= x7 /\ x7 < (t.length : Int) then
    if (decide ((t.getD x7.toNat default) < 0)) = true then
     some (.inl (best, rule, to, lowest, (IntKind.i64.wrap (x7 - 1))))
    else
     (y6q cs.1 t x7).bind fun r =>
     if (decide (lowest < r)) = true then
      some (.inl (best, rule, to, lowest, (IntKind.i64.wrap (x7 - 1))))
     else
      loopC (c3q cs t depth best rule to lowest x7) 0
   else none
  else
   Option.map Sum.inr (
    some (best, rule, to))
def c9 (cs : TyA) (t : q7) (depth : Int) : Option Ty4 :=
 loopC (c2q cs t depth) ((-1), 0, [], (t.length : Int), (IntKind.i64.wrap ((t.length : Int) - 1)))
instance z0o {cs : TyA} {t : q7} {depth : Int} : y3 (c9 cs t depth) fun rr => r9 Tryz.prog 168 [j6 cs, (z7 1 iD) t, iD depth] [iD rr.1, iD rr.2.1, (z7 1 iD) rr.2.2] := ⟨@fun rr h => by
 delta c9 at h
 refine y2a.pureLN (q6 ?_)
 delta x8f
 refine v5 ?_
 refine s9 h [9, 10, 11, 12, 13, 14, 15, 16, 17, 23, 24, 25, 26, 27, 28, 29, 30, 31, 32, 33, 34, 35, 36, 37, 38, 39, 40, 41, 42, 43, 44, 45, 46, 47, 48, 49, 50, 51, 52, 53, 54, 55, 56, 57, 58, 59, 60, 61, 62, 63] (fun pp => [(9, .d (iD pp.1)), (10, .d (iD pp.2.1)), (11, .d (z7 1 iD pp.2.2.1)), (12, .d (iD pp.2.2.2.1)), (13, .d (iD pp.2.2.2.2))]) (fun pp => [(3, .obj 74 [.d (z7 1 iD cs.1), .d (z7 3 q9 cs.2)])]) ?_
 rintro ⟨best, rule, to, lowest, x7⟩ t1 h hb1
 unfold c2q at h
 try dsimp only at h
 refine q6 (v5 ?_)
 refine iT h fun hc h => ?_
 refine ndI h fun hp h => ?_
 refine iF h fun hc h => ?_
 refine rC h fun r hr h => ?_
 refine iF h fun hc h => ?_
 refine s9 h [9, 10, 11, 12, 14, 15, 16, 17, 44, 45, 46, 47, 48, 49, 50, 51, 52, 53, 54, 55, 56, 57, 58, 59, 60, 61, 62, 63] (fun pp => [(9, .d (iD best)), (10, .d (iD rule)), (11, .d (z7 1 iD to)), (12, .d (iD lowest)), (44, .d (iD pp))]) (fun pp => [(3, .obj 74 [.d (z7 1 iD cs.1), .d (z7 3 q9 cs.2)])]) ?_
 rintro v44 t2 h hb2
 unfold c3q at h
 try dsimp only at h
 refine q6 (v5 ?_)
 refine iT h fun hc h => ?_
 refine ndI h fun hp h => ?_
 refine rCN h fun r_1 hr_1 h => ?_
 refine it h (fun hc h => ?_) fun hc h => ?_
 ·replace h := u9 h hb2
  cases h
  refine ⟨_, rfl, ?_⟩
  refine (y0.drop 15 (by omega)).trans ?_
  exact wk
 cases h
 refine ⟨_, rfl, ?_⟩
 refine (y0.drop 15 (by omega)).trans ?_
 exact wk⟩
end Go.Proofs.YtklfjpilhbkekaaGreat
