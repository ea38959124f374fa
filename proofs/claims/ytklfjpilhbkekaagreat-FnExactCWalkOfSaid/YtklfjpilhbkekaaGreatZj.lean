/- Functions of the program and the equations that they compute, the walk of the unravelled system, the program; nothing is assumed. -/
import Derived.Test.YtklfjpilhbkekaaGreatZh
set_option linter.all false
noncomputable section
namespace Go.Proofs.YtklfjpilhbkekaaGreat
open Go Abx
attribute [local irreducible] vcm vgo vdr q3o q0n MWp p5q BrC BrO BrG BrD BrH z0s a3q q3y drQ w8 e2q
set_option maxHeartbeats 4000000
set_option maxRecDepth 8000
def mc89 : j5 :=
 (.seq (.reg (sq 6 [bo 6 74 0, bo 7 46 1] ++ sq 12 [.alloc 12 40 [.sl 0 (some true) [], .sl 0 (some true) []], mb false])) (.seq (.reg (sq 27 [fa 1 6, ld 27, mv 4, ix 3 28 29, la 3 30] ++ sq 14 [.alloc 14 136 [.sl 0 (some true) [], .sl 0 (some true) [], .sl 0 (some true) []]] ++ s0 (sr 3 14 31))) (.seq (.reg (sq 32 [mv 2, cf 121 [32], .build [.sl 0 (some true) [], .sl 0 (some true) []] [(0, 1, (t0 33))]] ++ sq 15 [.alloc 15 40 [.sl 0 (some true) [], .sl 0 (some true) []]] ++ s0 (sr 2 15 34))) (.seq (.reg (sq 35 [la 2 6, mv 4, cf 166 [35, 36]] ++ sq 16 [mv 37])) (.seq (.seq (.reg (sq 38 [la 2 7, mv 3, mv 16, cf 167 [15, 38, 39, 40], nt 41])) (.cond (t0 42) (.seq (.reg (sq 43 [.build [.sl 0 (some true) [], .sl 0 (some true) []] []] ++ s0 (sr 2 12 43) ++ sq 13 [mb false])) .ret) .skip)) (.seq (.seq (.reg (sq 44 [fa 2 14, ld 44, ln 45, mi 0])) (.block 0 (.loop (.seq (.reg (sq 48 [bn .lss 47 46])) (.seq (.cond (t0 48) .skip (.exit 0)) (.seq (.block 1 (.seq (.reg (sq 49 [mv 47] ++ sq 17 [mv 49])) (.seq (.draw (sq 50 [fa 0 7, la 1 50, la 2 15, cf 61 [52], mv 3, bi .add 54 1, cf 159 [51, 53, 55], cf 121 [56]] ++ sq 18 [mv 57]) [[], [0], [], [2], [], [4], [1, 3, 5, 3], [6, 6], [7, 7, 0, 1, 2, 3, 4, 5, 6, 7]]) (.seq (.block 2 (.loop (.block 3 (.seq (.reg (sq 59 [la 2 6, mv 18, mv 5, bi .sub 61 1, cf 168 [59, 60, 62]] ++ sq 58 [mv 63] ++ sq 64 [ex 58 0, ex 58 1, ex 58 2] ++ sq 19 [mv 64, mv 65, mv 66])) (.seq (.seq (.reg (sq 67 [mv 19, bi .lss 67 0])) (.cond (t0 68) (.exit 2) .skip)) (.seq (.reg (sq 70 [la 2 6, la 2 7, mv 18, mv 19, mv 20, mv 5, bi .sub 75 1, cf 89 [70, 71, 72, 73, 74, 76]] ++ sq 69 [mv 77] ++ sq 78 [ex 69 0, ex 69 1] ++ sq 22 [.alloc 22 40 [.sl 0 (some true) [], .sl 0 (some true) []]] ++ s0 (sr 2 22 78) ++ sq 23 [mv 79])) (.seq (.seq (.reg (sq 80 [mv 23, nt 80])) (.cond (t0 81) (.seq (.reg (sq 82 [.build [.sl 0 (some true) [], .sl 0 (some true) []] []] ++ s0 (sr 2 12 82) ++ sq 13 [mb false])) .ret) .skip)) (.seq (.draw (sq 84 [fa 0 7, la 1 84, la 2 22, la 2 15, cf 61 [87], mv 3, bi .add 89 1, cf 60 [85, 86, 88, 90]] ++ sq 83 [mv 91] ++ sq 92 [ex 83 0, ex 83 1] ++ sq 24 [.alloc 24 40 [.sl 0 (some true) [], .sl 0 (some true) []]] ++ s0 (sr 2 24 92) ++ sq 23 [mv 93]) [[], [0], [], [], [3], [], [5], [1, 2, 4, 6, 4], [7], [8], [8], [], [11, 9, 7, 0, 1, 2, 3, 4, 5, 6, 7, 8, 9, 11], [10, 12, 0, 1, 2, 3, 4, 5, 6, 7, 8, 9, 10, 11, 12]]) (.seq (.seq (.reg (sq 94 [mv 23, nt 94, mv 95] ++ sg 96 false 97 [fa 1 15, ld 97, ln 98, fa 1 24, ld 100, ln 101, bn .add 99 102, bi .gtr 103 60] ++ sq 105 [po 96 104])) (.cond (t0 105) (.seq (.reg (sq 106 [.build [.sl 0 (some true) [], .sl 0 (some true) []] []] ++ s0 (sr 2 12 106) ++ sq 13 [mb false])) .ret) .skip)) (.seq (.seq (.reg (sq 107 [fa 1 24, ld 107, ln 108, mi 0])) (.block 4 (.loop (.seq (.reg (sq 111 [bn .lss 110 109])) (.seq (.cond (t0 111) .skip (.exit 4)) (.seq (.block 5 (.seq (.reg (sq 112 [ix 3 108 110, la 3 112] ++ sq 26 [.alloc 26 151 [.lit (.int .i64 0), .lit (.int .i64 0), .sl 0 (some true) []]] ++ s0 (sr 3 26 113))) (.reg (sq 114 [la 3 26, cf 122 [15, 114]])))) (.reg (sq 116 [bi .add 110 1] ++ sq 110 [mv 116])))))))) (.reg (sq 117 [mv 21] ++ sq 18 [mv 117])))))))))))) (.seq (.reg (sq 118 [la 2 7, mv 3, mv 16, bi .add 120 1, mv 17, bn .add 121 122, cf 167 [15, 118, 119, 123], nt 124])) (.cond (t0 125) (.seq (.reg (sq 126 [.build [.sl 0 (some true) [], .sl 0 (some true) []] []] ++ s0 (sr 2 12 126) ++ sq 13 [mb false])) .ret) .skip)))))) (.reg (sq 127 [bi .add 47 1] ++ sq 47 [mv 127])))))))) (.seq (.reg (sq 128 [la 2 15] ++ s0 (sr 2 12 128) ++ sq 13 [mb true])) .ret)))))))
theorem fn89 : t6 Tryz.prog 89 mc89 129 [.cell 12 2 true, .tmp 13] := mf Tryz.func89 Tryz.ntmps89
def g2q (r : q7) (r_6 : Ty4) (r_10 : (Ty7 × Bool)) : (Int × Ty5) -> Option ((Int × Ty5) ⊕ (Ty7 ⊕ ((Int × Ty5) ⊕ (Ty7 × Bool))))
 | (v110, w_2) =>
  if (decide (v110 < (r_10.1.2.length : Int))) = true then
   if 0 <= v110 /\ v110 < (r_10.1.2.length : Int) then
    (v6q ((r_10.1.2.getD v110.toNat default).1, (r_10.1.2.getD v110.toNat default).2.1, (r_10.1.2.getD v110.toNat default).2.2) r w_2).bind fun r_11 =>
    some (.inl ((IntKind.i64.wrap (v110 + 1)), r_11))
   else none
  else
   Option.map Sum.inr (
    some (.inl (r_6.2.2, w_2)))
def o6 (rec : TyA -> Ty6 -> q7 -> Int -> Int -> Int -> Option (Ty7 × Bool)) (cs : TyA) (sys : Ty6) (x7 : Int) (depth : Int) (r : q7) (r_1 : Int) (v47 : Int) : Ty7 -> Option (Ty7 ⊕ ((Int × Ty5) ⊕ (Ty7 × Bool)))
 | (u, w_1) =>
  (c9 cs u (IntKind.i64.wrap (depth - 1))).bind fun r_6 =>
  if (decide (r_6.1 < 0)) = true then
   Option.map Sum.inr (
    (i5 sys x7 (IntKind.i64.wrap ((IntKind.i64.wrap (r_1 + 1)) + v47)) r w_1).bind fun r_7 =>
    if r_7.1 = true then
     some (.inl ((IntKind.i64.wrap (v47 + 1)), r_7.2))
    else
     Option.map Sum.inr (
      some (([], []), false)))
  else
   (rec cs sys u r_6.1 r_6.2.1 (IntKind.i64.wrap (depth - 1))).bind fun r_8 =>
   if r_8.2 = true then
    (b8 (r, w_1)).bind fun r_9 =>
    (v1q sys.1 r_8.1 r_9 (IntKind.i64.wrap (x7 + 1))).bind fun r_10 =>
    if r_10.2 = true then
     if (decide (60 < (IntKind.i64.wrap ((w_1.length : Int) + (r_10.1.2.length : Int))))) = true then
      Option.map Sum.inr (
       Option.map Sum.inr (
        some (([], []), false)))
     else
      loopC (g2q r r_6 r_10) (0, w_1)
    else
     Option.map Sum.inr (
      Option.map Sum.inr (
       some (([], []), false)))
   else
    Option.map Sum.inr (
     Option.map Sum.inr (
      some (([], []), false)))
def b5 (rec : TyA -> Ty6 -> q7 -> Int -> Int -> Int -> Option (Ty7 × Bool)) (cs : TyA) (sys : Ty6) (x7 : Int) (rule : Int) (depth : Int) (r : q7) (r_1 : Int) : (Int × Ty5) -> Option ((Int × Ty5) ⊕ (Ty7 × Bool))
 | (v47, w) =>
  if (decide (v47 < (((cs.2.getD rule.toNat default).2.2).length : Int))) = true then
   (b8 (r, w)).bind fun r_3 =>
   (q7q sys.1 r_3 (IntKind.i64.wrap (x7 + 1))).bind fun r_4 =>
   (y7 r_4).bind fun r_5 =>
   loopC (o6 rec cs sys x7 depth r r_1 v47) (r_5, w)
  else
   Option.map Sum.inr (
    some ((r, w), true))
def u6 : Nat -> TyA -> Ty6 -> q7 -> Int -> Int -> Int -> Option (Ty7 × Bool)
 | 0, _, _, _, _, _, _ => none
 | fu + 1, cs, sys, t, x7, rule, depth =>
  if 0 <= rule /\ rule < (cs.2.length : Int) then
   (y7 t).bind fun r =>
   (a8 cs rule).bind fun r_1 =>
   (i5 sys x7 r_1 r []).bind fun r_2 =>
   if r_2.1 = true then
    loopC (b5 (u6 fu) cs sys x7 rule depth r r_1) (0, r_2.2)
   else
    some (([], []), false)
  else none
def i8 (cs : TyA) (sys : Ty6) (t : q7) (x7 : Int) (rule : Int) (depth : Int) : Option (Ty7 × Bool) := j0j fun fu => u6 fu cs sys t x7 rule depth
theorem q2j : ∀ {fu : Nat} {cs : TyA} {sys : Ty6} {t : q7} {x7 : Int} {rule : Int} {depth : Int} {rr : (Ty7 × Bool)} (h : u6 fu cs sys t x7 rule depth = some rr), r9 Tryz.prog 89 [j6 cs, d5 sys, (z7 1 iD) t, iD x7, iD rule, iD depth] [u7 rr.1, bD rr.2]
 | 0, _, _, _, _, _, _, _, h => by cases h
 | fu + 1, cs, sys, t, x7, rule, depth, rr, h => by
  have ih : ∀ {cs : TyA} {sys : Ty6} {t : q7} {x7 : Int} {rule : Int} {depth : Int}, y3 (u6 fu cs sys t x7 rule depth) fun rr => r9 Tryz.prog 89 [j6 cs, d5 sys, (z7 1 iD) t, iD x7, iD rule, iD depth] [u7 rr.1, bD rr.2] := ⟨fun h => q2j h⟩
  unfold u6 at h
  refine fn89.pureLN (q6 ?_)
  delta mc89
  refine v5 ?_
  refine ndI h fun hp h => ?_
  refine rC h fun r hr h => ?_
  refine rC h fun r_1 hr_1 h => ?_
  refine z9k 15 1 300000 151 3 rfl rfl rfl (v5 ?_)
  refine rCo [(0, 15), (1, 300000)] [] h fun r_2 hr_2 h => ?_
  refine iT h fun hc h => ?_
  refine s9 h [13, 17, 18, 19, 20, 21, 22, 23, 24, 26, 47, 48, 49, 50, 51, 52, 53, 54, 55, 56, 57, 58, 59, 60, 61, 62, 63, 64, 65, 66, 67, 68, 69, 70, 71, 72, 73, 74, 75, 76, 77, 78, 79, 80, 81, 82, 83, 84, 85, 86, 87, 88, 89, 90, 91, 92, 93, 94, 95, 96, 97, 98, 99, 100, 101, 102, 103, 104, 105, 106, 107, 108, 109, 110, 111, 112, 113, 114, 115, 116, 117, 118, 119, 120, 121, 122, 123, 124, 125, 126, 127] (fun pp => [(47, .d (iD pp.1))]) (fun pp => [(6, .obj 74 [.d (z7 1 iD cs.1), .d (z7 3 q9 cs.2)]), (7, .obj 46 [.d (z7 1 iD sys.1), .d (z7 2 v7 sys.2)]), (12, .obj 40 [.d (.sl 0 (some true) []), .d (.sl 0 (some true) [])]), (14, .obj 136 [.d (z7 1 iD ((cs.2.getD rule.toNat default).1)), .d (z7 1 iD ((cs.2.getD rule.toNat default).2.1)), .d (z7 2 y5 ((cs.2.getD rule.toNat default).2.2))]), (15, .obj 40 [.d (z7 1 iD r), .own 3 300000 (List.map z5 pp.2)]), (300000, .tok 151 3 pp.2.length)]) ?_
  rintro ⟨v47, w⟩ t1 h hb1
  unfold b5 at h
  try dsimp only at h
  refine q6 (v5 ?_)
  refine iT h fun hc h => ?_
  refine dC h fun r_3 hr_3 h => ?_
  refine dC h fun r_4 hr_4 h => ?_
  refine dC h fun r_5 hr_5 h => ?_
  refine y7q (by kernel_rfl) (v5 ?_)
  refine s9 h [13, 18, 19, 20, 21, 22, 23, 24, 26, 58, 59, 60, 61, 62, 63, 64, 65, 66, 67, 68, 69, 70, 71, 72, 73, 74, 75, 76, 77, 78, 79, 80, 81, 82, 83, 84, 85, 86, 87, 88, 89, 90, 91, 92, 93, 94, 95, 96, 97, 98, 99, 100, 101, 102, 103, 104, 105, 106, 107, 108, 109, 110, 111, 112, 113, 114, 115, 116, 117] (fun pp => [(18, .d (z7 1 iD pp.1))]) (fun pp => [(6, .obj 74 [.d (z7 1 iD cs.1), .d (z7 3 q9 cs.2)]), (7, .obj 46 [.d (z7 1 iD sys.1), .d (z7 2 v7 sys.2)]), (12, .obj 40 [.d (.sl 0 (some true) []), .d (.sl 0 (some true) [])]), (14, .obj 136 [.d (z7 1 iD ((cs.2.getD rule.toNat default).1)), .d (z7 1 iD ((cs.2.getD rule.toNat default).2.1)), .d (z7 2 y5 ((cs.2.getD rule.toNat default).2.2))]), (15, .obj 40 [.d (z7 1 iD r), .own 3 300000 (List.map z5 pp.2)]), (300000, .tok 151 3 pp.2.length)]) ?_
  rintro ⟨u, w_1⟩ t2 h hb2
  unfold o6 at h
  try dsimp only at h
  refine q6 (v5 ?_)
  refine rCN h fun r_6 hr_6 h => ?_
  refine it h (fun hc h => ?_) fun hc h => ?_
  ·replace h := u9 h hb2
   refine rCo [(0, 15), (1, 300000)] [] h fun r_7 hr_7 h => ?_
   exact aut
  refine rCN h fun r_8 hr_8 h => ?_
  refine iT h fun hc h => ?_
  refine dC h fun r_9 hr_9 h => ?_
  refine dCN h fun r_10 hr_10 h => ?_
  refine y7q (by kernel_rfl) (v5 ?_)
  refine iT h fun hc h => ?_
  refine iF h fun hc h => ?_
  refine s9 h [26, 110, 111, 112, 113, 114, 115, 116] (fun pp => [(110, .d (iD pp.1))]) (fun pp => [(6, .obj 74 [.d (z7 1 iD cs.1), .d (z7 3 q9 cs.2)]), (7, .obj 46 [.d (z7 1 iD sys.1), .d (z7 2 v7 sys.2)]), (12, .obj 40 [.d (.sl 0 (some true) []), .d (.sl 0 (some true) [])]), (14, .obj 136 [.d (z7 1 iD ((cs.2.getD rule.toNat default).1)), .d (z7 1 iD ((cs.2.getD rule.toNat default).2.1)), .d (z7 2 y5 ((cs.2.getD rule.toNat default).2.2))]), (15, .obj 40 [.d (z7 1 iD r), .own 3 300000 (List.map z5 pp.2)]), (22, .obj 40 [.d (z7 1 iD r_8.1.1), .d (z7 3 z5 r_8.1.2)]), (24, .obj 40 [.d (z7 1 iD r_10.1.1), .d (z7 3 z5 r_10.1.2)]), (300000, .tok 151 3 pp.2.length)]) ?_
  rintro ⟨v110, w_2⟩ t3 h hb3
  unfold g2q at h
  try dsimp only at h
  refine q6 (v5 ?_)
  refine it h (fun hc h => ?_) fun hc h => ?_
  ·refine ndI h fun hp h => ?_
   refine rCo [(0, 15), (1, 300000)] [] h fun r_11 hr_11 h => ?_
   cases h
   refine ⟨_, rfl, ?_⟩
   refine (y0.drop 26 (by omega)).trans ?_
   exact wk
  replace h := u9 h hb3
  cases h
  refine ⟨_, rfl, ?_⟩
  refine (y0.drop 22 (by omega)).trans ?_
  refine (y0.drop 24 (by omega)).trans ?_
  exact wk
instance k8s {cs : TyA} {sys : Ty6} {t : q7} {x7 : Int} {rule : Int} {depth : Int} : y3 (i8 cs sys t x7 rule depth) fun rr => r9 Tryz.prog 89 [j6 cs, d5 sys, (z7 1 iD) t, iD x7, iD rule, iD depth] [u7 rr.1, bD rr.2] := ⟨fun h => q2j (q2n h).choose_spec⟩
def h5q (sys : Ty6) (x7 : Int) (rule : Int) (w0 : q7) (w1 : Ty5) : Option (Bool × Ty5) :=
 (b8 (w0, w1)).bind fun r =>
 (m6q sys r x7 rule).bind fun r_1 =>
 if r_1.2 = true then
  if ((w1.length : Int) == 60) = true then
   some (false, w1)
  else
   (t0q (x7, rule, r_1.1) w0 w1).bind fun r_2 =>
   some (true, r_2)
 else
  some (false, w1)
instance z1i {sys : Ty6} {x7 : Int} {rule : Int} {w0 : q7} {w1 : Ty5} : y3 (h5q sys x7 rule w0 w1) fun rr => x6 Tryz.prog 167 [.ptr 0 0, .d (.agg [z7 1 iD sys.1, z7 2 v7 sys.2]), .d (iD x7), .d (iD rule)] [(0, .obj 40 [.own 1 1 (List.map iD w0), .own 3 2 (List.map z5 w1)]), (1, .tok 2 1 w0.length), (2, .tok 151 3 w1.length)] 3 fun xx ss => xx = .d (bD rr.1) /\ ss = [(0, .obj 40 [.own 1 1 (List.map iD w0), .own 3 2 (List.map z5 rr.2)]), (1, .tok 2 1 w0.length), (2, .tok 151 3 rr.2.length)] := ⟨@fun rr h => by
 delta h5q at h
 refine x7g.callsO (q6 ?_)
 delta x1c
 refine v5 ?_
 refine dC h fun r hr h => ?_
 refine dCN h fun r_1 hr_1 h => ?_
 refine y7q (by kernel_rfl) (v5 ?_)
 refine it h (fun hc h => ?_) fun hc h => ?_
 ·refine it h (fun hc h => ?_) fun hc h => ?_
  ·cases h
   exact ⟨[5], by simp, don, don⟩
  refine rCo [(0, 0), (1, 1), (2, 2)] [] h fun r_2 hr_2 h => ?_
  cases h
  exact ⟨[5], by simp, don, don⟩
 cases h
 exact ⟨[5], by simp, don, don⟩⟩
def w5 (sys : Ty6) (x7 : Int) (rule : Int) (w0 : q7) (w1 : Ty5) : Option (Bool × Ty5) :=
 (b8 (w0, w1)).bind fun r =>
 (m6q sys r x7 rule).bind fun r_1 =>
 if r_1.2 = true then
  if ((w1.length : Int) == 60) = true then
   some (false, w1)
  else
   (x5q (x7, rule, r_1.1) w0 w1).bind fun r_2 =>
   some (true, r_2)
 else
  some (false, w1)
instance z1j {sys : Ty6} {x7 : Int} {rule : Int} {w0 : q7} {w1 : Ty5} : y3 (w5 sys x7 rule w0 w1) fun rr => x6 Tryz.prog 167 [.ptr 0 0, .d (.agg [z7 1 iD sys.1, z7 2 v7 sys.2]), .d (iD x7), .d (iD rule)] [(0, .obj 40 [.own 1 1 (List.map iD w0), .own 3 2 (List.map z5 w1)]), (1, .tok 2 1 w0.length), (2, .nst 151 3 w1.length (j7 (List.map z5 w1)))] 3 fun xx ss => xx = .d (bD rr.1) /\ ss = [(0, .obj 40 [.own 1 1 (List.map iD w0), .own 3 2 (List.map z5 rr.2)]), (1, .tok 2 1 w0.length), (2, .nst 151 3 rr.2.length (j7 (List.map z5 rr.2)))] := ⟨@fun rr h => by
 delta w5 at h
 refine x7g.callsO (q6 ?_)
 delta x1c
 refine v5 ?_
 refine dC h fun r hr h => ?_
 refine dCN h fun r_1 hr_1 h => ?_
 refine y7q (by kernel_rfl) (v5 ?_)
 refine it h (fun hc h => ?_) fun hc h => ?_
 ·refine it h (fun hc h => ?_) fun hc h => ?_
  ·cases h
   exact ⟨[5], by simp, don, don⟩
  refine rCo [(0, 0), (1, 1), (2, 2)] [] h fun r_2 hr_2 h => ?_
  cases h
  exact ⟨[5], by simp, don, don⟩
 cases h
 exact ⟨[5], by simp, don, don⟩⟩
def o8q : j5 :=
 (.seq (.reg (sq 6 [bo 6 74 0, bo 7 46 1] ++ sq 12 [.alloc 12 40 [.sl 0 (some true) [], .sl 0 (some true) []], mb false])) (.seq (.reg (sq 27 [fa 1 6, ld 27, mv 4, ix 3 28 29, la 3 30] ++ sq 14 [.alloc 14 136 [.sl 0 (some true) [], .sl 0 (some true) [], .sl 0 (some true) []]] ++ s0 (sr 3 14 31))) (.seq (.reg (sq 32 [mv 2, cf 121 [32], .build [.sl 0 (some true) [], .sl 0 (some true) []] [(0, 1, (t0 33))]] ++ sq 15 [.alloc 15 40 [.sl 0 (some true) [], .sl 0 (some true) []]] ++ s0 (sr 2 15 34))) (.seq (.reg (sq 35 [la 2 6, mv 4, cf 166 [35, 36]] ++ sq 16 [mv 37])) (.seq (.seq (.reg (sq 38 [la 2 7, mv 3, mv 16, cf 167 [15, 38, 39, 40], nt 41])) (.cond (t0 42) (.seq (.reg (sq 43 [.build [.sl 0 (some true) [], .sl 0 (some true) []] []] ++ s0 (sr 2 12 43) ++ sq 13 [mb false])) .ret) .skip)) (.seq (.seq (.reg (sq 44 [fa 2 14, ld 44, ln 45, mi 0])) (.block 0 (.loop (.seq (.reg (sq 48 [bn .lss 47 46])) (.seq (.cond (t0 48) .skip (.exit 0)) (.seq (.block 1 (.seq (.reg (sq 49 [mv 47] ++ sq 17 [mv 49])) (.seq (.draw (sq 50 [fa 0 7, la 1 50, la 2 15, cf 61 [52], mv 3, bi .add 54 1, cf 159 [51, 53, 55], cf 121 [56]] ++ sq 18 [mv 57]) [[], [0], [], [2], [], [4], [1, 3, 5, 3], [6, 6], [7, 7, 0, 1, 2, 3, 4, 5, 6, 7]]) (.seq (.block 2 (.loop (.block 3 (.seq (.reg (sq 59 [la 2 6, mv 18, mv 5, bi .sub 61 1, cf 168 [59, 60, 62]] ++ sq 58 [mv 63] ++ sq 64 [ex 58 0, ex 58 1, ex 58 2] ++ sq 19 [mv 64, mv 65, mv 66])) (.seq (.seq (.reg (sq 67 [mv 19, bi .lss 67 0])) (.cond (t0 68) (.exit 2) .skip)) (.seq (.reg (sq 70 [la 2 6, la 2 7, mv 18, mv 19, mv 20, mv 5, bi .sub 75 1, cf 89 [70, 71, 72, 73, 74, 76]] ++ sq 69 [mv 77] ++ sq 78 [ex 69 0, ex 69 1] ++ sq 22 [.alloc 22 40 [.sl 0 (some true) [], .sl 0 (some true) []]] ++ s0 (sr 2 22 78) ++ sq 23 [mv 79])) (.seq (.seq (.reg (sq 80 [mv 23, nt 80])) (.cond (t0 81) (.seq (.reg (sq 82 [.build [.sl 0 (some true) [], .sl 0 (some true) []] []] ++ s0 (sr 2 12 82) ++ sq 13 [mb false])) .ret) .skip)) (.seq (.draw (sq 84 [fa 0 7, la 1 84, la 2 22, la 2 15, cf 61 [87], mv 3, bi .add 89 1, cf 60 [85, 86, 88, 90]] ++ sq 83 [mv 91] ++ sq 92 [ex 83 0, ex 83 1] ++ sq 24 [.alloc 24 40 [.sl 0 (some true) [], .sl 0 (some true) []]] ++ s0 (sr 2 24 92) ++ sq 23 [mv 93]) [[], [0], [], [], [3], [], [5], [1, 2, 4, 6, 4], [7], [8], [8], [], [11, 9, 7, 0, 1, 2, 3, 4, 5, 6, 7, 8, 9, 11], [10, 12, 0, 1, 2, 3, 4, 5, 6, 7, 8, 9, 10, 11, 12]]) (.seq (.seq (.reg (sq 94 [mv 23, nt 94, mv 95] ++ sg 96 false 97 [fa 1 15, ld 97, ln 98, fa 1 24, ld 100, ln 101, bn .add 99 102, bi .gtr 103 60] ++ sq 105 [po 96 104])) (.cond (t0 105) (.seq (.reg (sq 106 [.build [.sl 0 (some true) [], .sl 0 (some true) []] []] ++ s0 (sr 2 12 106) ++ sq 13 [mb false])) .ret) .skip)) (.seq (.seq (.reg (sq 107 [fa 1 24, ld 107, ln 108, mi 0])) (.block 4 (.loop (.seq (.reg (sq 111 [bn .lss 110 109])) (.seq (.cond (t0 111) .skip (.exit 4)) (.seq (.block 5 (.seq (.reg (sq 112 [ix 3 108 110, la 3 112] ++ sq 26 [.alloc 26 151 [.lit (.int .i64 0), .lit (.int .i64 0), .sl 0 (some true) []]] ++ s0 (sr 3 26 113))) (.reg (sq 114 [la 3 26, cf 122 [15, 114]])))) (.reg (sq 116 [bi .add 110 1] ++ sq 110 [mv 116])))))))) (.reg (sq 117 [mv 21] ++ sq 18 [mv 117])))))))))))) (.seq (.reg (sq 118 [la 2 7, mv 3, mv 16, bi .add 120 1, mv 17, bn .add 121 122, cf 167 [15, 118, 119, 123], nt 124])) (.cond (t0 125) (.seq (.reg (sq 126 [.build [.sl 0 (some true) [], .sl 0 (some true) []] []] ++ s0 (sr 2 12 126) ++ sq 13 [mb false])) .ret) .skip)))))) (.reg (sq 127 [bi .add 47 1] ++ sq 47 [mv 127])))))))) (.seq (.reg (sq 128 [la 2 15] ++ s0 (sr 2 12 128) ++ sq 13 [mb true])) .ret)))))))
theorem q3m : t6 Tryz.prog 89 o8q 129 [.cell 12 2 true, .tmp 13] := mf Tryz.func89 Tryz.ntmps89
def j6q (r : q7) (r_6 : Ty4) (r_10 : (Ty7 × Bool)) : (Int × Ty5) -> Option ((Int × Ty5) ⊕ (Ty7 ⊕ ((Int × Ty5) ⊕ (q7 × Ty5 × Bool))))
 | (v110, w_2) =>
  if (decide (v110 < (r_10.1.2.length : Int))) = true then
   if 0 <= v110 /\ v110 < (r_10.1.2.length : Int) then
    (x5q ((r_10.1.2.getD v110.toNat default).1, (r_10.1.2.getD v110.toNat default).2.1, (r_10.1.2.getD v110.toNat default).2.2) r w_2).bind fun r_11 =>
    some (.inl ((IntKind.i64.wrap (v110 + 1)), r_11))
   else none
  else
   Option.map Sum.inr (
    some (.inl (r_6.2.2, w_2)))
def k1q (cs : TyA) (sys : Ty6) (x7 : Int) (depth : Int) (r : q7) (r_1 : Int) (v47 : Int) : Ty7 -> Option (Ty7 ⊕ ((Int × Ty5) ⊕ (q7 × Ty5 × Bool)))
 | (u, w_1) =>
  (c9 cs u (IntKind.i64.wrap (depth - 1))).bind fun r_6 =>
  if (decide (r_6.1 < 0)) = true then
   Option.map Sum.inr (
    (w5 sys x7 (IntKind.i64.wrap ((IntKind.i64.wrap (r_1 + 1)) + v47)) r w_1).bind fun r_7 =>
    if r_7.1 = true then
     some (.inl ((IntKind.i64.wrap (v47 + 1)), r_7.2))
    else
     Option.map Sum.inr (
      some ([], [], false)))
  else
   (i8 cs sys u r_6.1 r_6.2.1 (IntKind.i64.wrap (depth - 1))).bind fun r_8 =>
   if r_8.2 = true then
    (b8 (r, w_1)).bind fun r_9 =>
    (v1q sys.1 r_8.1 r_9 (IntKind.i64.wrap (x7 + 1))).bind fun r_10 =>
    if r_10.2 = true then
     if (decide (60 < (IntKind.i64.wrap ((w_1.length : Int) + (r_10.1.2.length : Int))))) = true then
      Option.map Sum.inr (
       Option.map Sum.inr (
        some ([], [], false)))
     else
      loopC (j6q r r_6 r_10) (0, w_1)
    else
     Option.map Sum.inr (
      Option.map Sum.inr (
       some ([], [], false)))
   else
    Option.map Sum.inr (
     Option.map Sum.inr (
      some ([], [], false)))
def s5 (cs : TyA) (sys : Ty6) (x7 : Int) (rule : Int) (depth : Int) (r : q7) (r_1 : Int) : (Int × Ty5) -> Option ((Int × Ty5) ⊕ (q7 × Ty5 × Bool))
 | (v47, w) =>
  if (decide (v47 < (((cs.2.getD rule.toNat default).2.2).length : Int))) = true then
   (b8 (r, w)).bind fun r_3 =>
   (q7q sys.1 r_3 (IntKind.i64.wrap (x7 + 1))).bind fun r_4 =>
   (y7 r_4).bind fun r_5 =>
   loopC (k1q cs sys x7 depth r r_1 v47) (r_5, w)
  else
   Option.map Sum.inr (
    some (r, w, true))
def o7 : Nat -> TyA -> Ty6 -> q7 -> Int -> Int -> Int -> Option (q7 × Ty5 × Bool)
 | 0, _, _, _, _, _, _ => none
 | fu + 1, cs, sys, t, x7, rule, depth =>
  if 0 <= rule /\ rule < (cs.2.length : Int) then
   (n7 t).bind fun r =>
   (a8 cs rule).bind fun r_1 =>
   (w5 sys x7 r_1 r []).bind fun r_2 =>
   if r_2.1 = true then
    loopC (s5 cs sys x7 rule depth r r_1) (0, r_2.2)
   else
    some ([], [], false)
  else none
def z8q (cs : TyA) (sys : Ty6) (t : q7) (x7 : Int) (rule : Int) (depth : Int) : Option (q7 × Ty5 × Bool) := j0j fun fu => o7 fu cs sys t x7 rule depth
theorem e3q : ∀ {fu : Nat} {cs : TyA} {sys : Ty6} {t : q7} {x7 : Int} {rule : Int} {depth : Int} {rr : (q7 × Ty5 × Bool)} (h : o7 fu cs sys t x7 rule depth = some rr), x6 Tryz.prog 89 [.d (.agg [z7 1 iD cs.1, z7 3 q9 cs.2]), .d (.agg [z7 1 iD sys.1, z7 2 v7 sys.2]), .d (z7 1 iD t), .d (iD x7), .d (iD rule), .d (iD depth)] [] 0 fun xx ss => xx = .tup [.agg [.own 1 900000 (List.map iD rr.1), .own 3 900001 (List.map z5 rr.2.1)], .d (bD rr.2.2)] /\ ss = [(900000, .tok 2 1 rr.1.length), (900001, .nst 151 3 rr.2.1.length (j7 (List.map z5 rr.2.1)))]
 | 0, _, _, _, _, _, _, _, h => by cases h
 | fu + 1, cs, sys, t, x7, rule, depth, rr, h => by
  have ih : ∀ {cs : TyA} {sys : Ty6} {t : q7} {x7 : Int} {rule : Int} {depth : Int}, y3 (o7 fu cs sys t x7 rule depth) fun rr => x6 Tryz.prog 89 [.d (.agg [z7 1 iD cs.1, z7 3 q9 cs.2]), .d (.agg [z7 1 iD sys.1, z7 2 v7 sys.2]), .d (z7 1 iD t), .d (iD x7), .d (iD rule), .d (iD depth)] [] 0 fun xx ss => xx = .tup [.agg [.own 1 900000 (List.map iD rr.1), .own 3 900001 (List.map z5 rr.2.1)], .d (bD rr.2.2)] /\ ss = [(900000, .tok 2 1 rr.1.length), (900001, .nst 151 3 rr.2.1.length (j7 (List.map z5 rr.2.1)))] := ⟨fun h => e3q h⟩
  unfold o7 at h
  refine q3m.callsD (q6 ?_)
  delta o8q
  refine v5 ?_
  refine ndI h fun hp h => ?_
  refine rCo [] [(900000, 33)] h fun r hr h => ?_
  refine rC h fun r_1 hr_1 h => ?_
  refine z4i 15 1 300000 151 3 rfl rfl rfl (v5 ?_)
  refine rCo [(0, 15), (1, 33), (2, 300000)] [] h fun r_2 hr_2 h => ?_
  refine it h (fun hc h => ?_) fun hc h => ?_
  ·refine s9 h [13, 17, 18, 19, 20, 21, 22, 23, 24, 26, 33, 34, 47, 48, 49, 50, 51, 52, 53, 54, 55, 56, 57, 58, 59, 60, 61, 62, 63, 64, 65, 66, 67, 68, 69, 70, 71, 72, 73, 74, 75, 76, 77, 78, 79, 80, 81, 82, 83, 84, 85, 86, 87, 88, 89, 90, 91, 92, 93, 94, 95, 96, 97, 98, 99, 100, 101, 102, 103, 104, 105, 106, 107, 108, 109, 110, 111, 112, 113, 114, 115, 116, 117, 118, 119, 120, 121, 122, 123, 124, 125, 126, 127] (fun pp => [(47, .d (iD pp.1))]) (fun pp => [(6, .obj 74 [.d (z7 1 iD cs.1), .d (z7 3 q9 cs.2)]), (7, .obj 46 [.d (z7 1 iD sys.1), .d (z7 2 v7 sys.2)]), (12, .obj 40 [.d (.sl 0 (some true) []), .d (.sl 0 (some true) [])]), (14, .obj 136 [.d (z7 1 iD ((cs.2.getD rule.toNat default).1)), .d (z7 1 iD ((cs.2.getD rule.toNat default).2.1)), .d (z7 2 y5 ((cs.2.getD rule.toNat default).2.2))]), (15, .obj 40 [.own 1 33 (List.map iD r), .own 3 300000 (List.map z5 pp.2)]), (33, .tok 2 1 r.length), (300000, .nst 151 3 pp.2.length (j7 (List.map z5 pp.2)))]) ?_
   rintro ⟨v47, w⟩ t1 h hb1
   unfold s5 at h
   try dsimp only at h
   refine q6 (v5 ?_)
   refine it h (fun hc h => ?_) fun hc h => ?_
   ·refine dC h fun r_3 hr_3 h => ?_
    refine dC h fun r_4 hr_4 h => ?_
    refine dC h fun r_5 hr_5 h => ?_
    refine y7q (by kernel_rfl) (v5 ?_)
    refine s9 h [13, 18, 19, 20, 21, 22, 23, 24, 26, 52, 58, 59, 60, 61, 62, 63, 64, 65, 66, 67, 68, 69, 70, 71, 72, 73, 74, 75, 76, 77, 78, 79, 80, 81, 82, 83, 84, 85, 86, 87, 88, 89, 90, 91, 92, 93, 94, 95, 96, 97, 98, 99, 100, 101, 102, 103, 104, 105, 106, 107, 108, 109, 110, 111, 112, 113, 114, 115, 116, 117] (fun pp => [(18, .d (z7 1 iD pp.1))]) (fun pp => [(6, .obj 74 [.d (z7 1 iD cs.1), .d (z7 3 q9 cs.2)]), (7, .obj 46 [.d (z7 1 iD sys.1), .d (z7 2 v7 sys.2)]), (12, .obj 40 [.d (.sl 0 (some true) []), .d (.sl 0 (some true) [])]), (14, .obj 136 [.d (z7 1 iD ((cs.2.getD rule.toNat default).1)), .d (z7 1 iD ((cs.2.getD rule.toNat default).2.1)), .d (z7 2 y5 ((cs.2.getD rule.toNat default).2.2))]), (15, .obj 40 [.own 1 33 (List.map iD r), .own 3 300000 (List.map z5 pp.2)]), (33, .tok 2 1 r.length), (300000, .nst 151 3 pp.2.length (j7 (List.map z5 pp.2)))]) ?_
    rintro ⟨u, w_1⟩ t2 h hb2
    unfold k1q at h
    try dsimp only at h
    refine q6 (v5 ?_)
    refine rCN h fun r_6 hr_6 h => ?_
    refine it h (fun hc h => ?_) fun hc h => ?_
    ·replace h := u9 h hb2
     refine rCo [(0, 15), (1, 33), (2, 300000)] [] h fun r_7 hr_7 h => ?_
     refine iF h fun hc h => ?_
     replace h := u9 h hb1
     cases h
     exact x9.trans ((x9.trans (x9.thawT 900000 2 1 (.tup [.agg [.own 1 900000 (List.map iD []), .d (.sl 0 (some true) [])], .d (bD false)]) (by first | rfl | simp [sat]) (by repeat' (first | exact TW.nil | refine TW.tup ?_ | refine TW.aggD ?_ | refine TW.agg ?_ | refine TWs.cons ?_ ?_ | exact TWs.nil | exact TW.refl))) (x9.trans (x9.thawD 900001 151 3 (.tup [.agg [.own 1 900000 (List.map iD []), .own 3 900001 (List.map z5 [])], .d (bD false)]) (by first | rfl | simp [sat]) (by repeat' (first | exact TW.nil | refine TW.tup ?_ | refine TW.aggD ?_ | refine TW.agg ?_ | refine TWs.cons ?_ ?_ | exact TWs.nil | exact TW.refl))) (x9.drops [6, 7, 12, 14, 15, 33, 300000] (by simp))))) (x9.told frd don)
    refine rCN h fun r_8 hr_8 h => ?_
    refine it h (fun hc h => ?_) fun hc h => ?_
    ·refine dC h fun r_9 hr_9 h => ?_
     refine dCN h fun r_10 hr_10 h => ?_
     refine y7q (by kernel_rfl) (v5 ?_)
     refine it h (fun hc h => ?_) fun hc h => ?_
     ·refine it h (fun hc h => ?_) fun hc h => ?_
      ·replace h := u9 h hb2
       replace h := u9 h hb1
       cases h
       exact x9.trans ((x9.trans (x9.thawT 900000 2 1 (.tup [.agg [.own 1 900000 (List.map iD []), .d (.sl 0 (some true) [])], .d (bD false)]) (by first | rfl | simp [sat]) (by repeat' (first | exact TW.nil | refine TW.tup ?_ | refine TW.aggD ?_ | refine TW.agg ?_ | refine TWs.cons ?_ ?_ | exact TWs.nil | exact TW.refl))) (x9.trans (x9.thawD 900001 151 3 (.tup [.agg [.own 1 900000 (List.map iD []), .own 3 900001 (List.map z5 [])], .d (bD false)]) (by first | rfl | simp [sat]) (by repeat' (first | exact TW.nil | refine TW.tup ?_ | refine TW.aggD ?_ | refine TW.agg ?_ | refine TWs.cons ?_ ?_ | exact TWs.nil | exact TW.refl))) (x9.drops [6, 7, 12, 14, 15, 22, 24, 33, 300000] (by simp))))) (x9.told frd don)
      refine s9 h [26, 87, 98, 110, 111, 112, 113, 114, 115, 116] (fun pp => [(110, .d (iD pp.1))]) (fun pp => [(6, .obj 74 [.d (z7 1 iD cs.1), .d (z7 3 q9 cs.2)]), (7, .obj 46 [.d (z7 1 iD sys.1), .d (z7 2 v7 sys.2)]), (12, .obj 40 [.d (.sl 0 (some true) []), .d (.sl 0 (some true) [])]), (14, .obj 136 [.d (z7 1 iD ((cs.2.getD rule.toNat default).1)), .d (z7 1 iD ((cs.2.getD rule.toNat default).2.1)), .d (z7 2 y5 ((cs.2.getD rule.toNat default).2.2))]), (15, .obj 40 [.own 1 33 (List.map iD r), .own 3 300000 (List.map z5 pp.2)]), (22, .obj 40 [.d (z7 1 iD r_8.1.1), .d (z7 3 z5 r_8.1.2)]), (24, .obj 40 [.d (z7 1 iD r_10.1.1), .d (z7 3 z5 r_10.1.2)]), (33, .tok 2 1 r.length), (300000, .nst 151 3 pp.2.length (j7 (List.map z5 pp.2)))]) ?_
      rintro ⟨v110, w_2⟩ t3 h hb3
      unfold j6q at h
      try dsimp only at h
      refine q6 (v5 ?_)
      refine it h (fun hc h => ?_) fun hc h => ?_
      ·refine ndI h fun hp h => ?_
       refine rCo [(0, 15), (1, 33), (2, 300000)] [] h fun r_11 hr_11 h => ?_
       cases h
       refine ⟨_, rfl, ?_⟩
       refine (y0.drop 26 (by omega)).trans ?_
       exact wk
      replace h := u9 h hb3
      cases h
      refine ⟨_, rfl, ?_⟩
      refine (y0.drop 22 (by omega)).trans ?_
      refine (y0.drop 24 (by omega)).trans ?_
      exact wk
     replace h := u9 h hb2
     replace h := u9 h hb1
     cases h
     exact x9.trans ((x9.trans (x9.thawT 900000 2 1 (.tup [.agg [.own 1 900000 (List.map iD []), .d (.sl 0 (some true) [])], .d (bD false)]) (by first | rfl | simp [sat]) (by repeat' (first | exact TW.nil | refine TW.tup ?_ | refine TW.aggD ?_ | refine TW.agg ?_ | refine TWs.cons ?_ ?_ | exact TWs.nil | exact TW.refl))) (x9.trans (x9.thawD 900001 151 3 (.tup [.agg [.own 1 900000 (List.map iD []), .own 3 900001 (List.map z5 [])], .d (bD false)]) (by first | rfl | simp [sat]) (by repeat' (first | exact TW.nil | refine TW.tup ?_ | refine TW.aggD ?_ | refine TW.agg ?_ | refine TWs.cons ?_ ?_ | exact TWs.nil | exact TW.refl))) (x9.drops [6, 7, 12, 14, 15, 22, 24, 33, 300000] (by simp))))) (x9.told frd don)
    replace h := u9 h hb2
    replace h := u9 h hb1
    cases h
    exact x9.trans ((x9.trans (x9.thawT 900000 2 1 (.tup [.agg [.own 1 900000 (List.map iD []), .d (.sl 0 (some true) [])], .d (bD false)]) (by first | rfl | simp [sat]) (by repeat' (first | exact TW.nil | refine TW.tup ?_ | refine TW.aggD ?_ | refine TW.agg ?_ | refine TWs.cons ?_ ?_ | exact TWs.nil | exact TW.refl))) (x9.trans (x9.thawD 900001 151 3 (.tup [.agg [.own 1 900000 (List.map iD []), .own 3 900001 (List.map z5 [])], .d (bD false)]) (by first | rfl | simp [sat]) (by repeat' (first | exact TW.nil | refine TW.tup ?_ | refine TW.aggD ?_ | refine TW.agg ?_ | refine TWs.cons ?_ ?_ | exact TWs.nil | exact TW.refl))) (x9.drops [6, 7, 12, 14, 15, 22, 33, 300000] (by simp))))) (x9.told frd don)
   replace h := u9 h hb1
   cases h
   exact x9.trans ((x9.trans (x9.move 33 900000 (ob := .tok 2 1 r.length) (by omega) (by omega) (by omega) rfl (by first | rfl | (simp; done) | (simp [sat, q0m, j8, p8, k3f, k0m, Ob.ren, Ob.kill, m8]; done))) (x9.trans (x9.move 300000 900001 (ob := .nst 151 3 w.length (j7 (List.map z5 w))) (by omega) (by omega) (by omega) rfl (by first | rfl | (simp; done) | (simp [sat, q0m, j8, p8, k3f, k0m, Ob.ren, Ob.kill, m8]; done))) (x9.drops [6, 7, 12, 14, 15] (by simp))))) (x9.told frd don)
  cases h
  exact x9.trans ((x9.trans (x9.thawT 900000 2 1 (.tup [.agg [.own 1 900000 (List.map iD []), .d (.sl 0 (some true) [])], .d (bD false)]) (by first | rfl | simp [sat]) (by repeat' (first | exact TW.nil | refine TW.tup ?_ | refine TW.aggD ?_ | refine TW.agg ?_ | refine TWs.cons ?_ ?_ | exact TWs.nil | exact TW.refl))) (x9.trans (x9.thawD 900001 151 3 (.tup [.agg [.own 1 900000 (List.map iD []), .own 3 900001 (List.map z5 [])], .d (bD false)]) (by first | rfl | simp [sat]) (by repeat' (first | exact TW.nil | refine TW.tup ?_ | refine TW.aggD ?_ | refine TW.agg ?_ | refine TWs.cons ?_ ?_ | exact TWs.nil | exact TW.refl))) (x9.drops [6, 7, 12, 14, 15, 33, 300000] (by simp))))) (x9.told frd don)
instance k6o {cs : TyA} {sys : Ty6} {t : q7} {x7 : Int} {rule : Int} {depth : Int} : y3 (z8q cs sys t x7 rule depth) fun rr => x6 Tryz.prog 89 [.d (.agg [z7 1 iD cs.1, z7 3 q9 cs.2]), .d (.agg [z7 1 iD sys.1, z7 2 v7 sys.2]), .d (z7 1 iD t), .d (iD x7), .d (iD rule), .d (iD depth)] [] 0 fun xx ss => xx = .tup [.agg [.own 1 900000 (List.map iD rr.1), .own 3 900001 (List.map z5 rr.2.1)], .d (bD rr.2.2)] /\ ss = [(900000, .tok 2 1 rr.1.length), (900001, .nst 151 3 rr.2.1.length (j7 (List.map z5 rr.2.1)))] := ⟨fun h => e3q (q2n h).choose_spec⟩
def mc32 : j5 :=
 (.seq (.reg (sq 5 [bo 5 74 0] ++ sq 10 [.alloc 10 40 [.sl 0 (some true) [], .sl 0 (some true) []], mb false])) (.seq (.seq (.reg (sq 17 [la 2 5, mv 1, mv 2, mv 3, mv 4, cf 30 [17, 18, 19, 20, 21]] ++ sq 16 [mv 22] ++ sq 23 [ex 16 0, ex 16 1] ++ sq 12 [mv 23, mv 24])) (.seq (.reg (sq 25 [mv 13, nt 25])) (.cond (t0 26) (.seq (.reg (sq 27 [.build [.sl 0 (some true) [], .sl 0 (some true) []] []] ++ s0 (sr 2 10 27) ++ sq 11 [mb false])) .ret) .skip))) (.seq (.reg (sq 29 [la 2 5, cf 88 [29]] ++ sq 28 [mv 30] ++ sq 31 [ex 28 0, ex 28 1] ++ sq 14 [.alloc 14 46 [.sl 0 (some true) [], .sl 0 (some true) []]] ++ s0 (sr 2 14 31) ++ sq 15 [mv 32])) (.seq (.seq (.reg (sq 33 [mv 15, nt 33])) (.cond (t0 34) (.seq (.reg (sq 35 [.build [.sl 0 (some true) [], .sl 0 (some true) []] []] ++ s0 (sr 2 10 35) ++ sq 11 [mb false])) .ret) .skip)) (.seq (.reg (sq 36 [la 2 5, la 2 14, mv 1, mv 2, mv 3, mv 4, cf 89 [36, 37, 38, 39, 40, 41], ex 42 0, ex 42 1] ++ s0 (sr 2 10 43) ++ sq 11 [mv 44])) .ret)))))
theorem fn32 : t6 Tryz.prog 32 mc32 45 [.cell 10 2 true, .tmp 11] := mf Tryz.func32 Tryz.ntmps32
def c4q (cs : TyA) (t : q7) (x7 : Int) (rule : Int) (depth : Int) : Option (q7 × Ty5 × Bool) :=
 (c1q cs t x7 rule depth).bind fun r =>
 if r.2 = true then
  (j0q cs).bind fun r_1 =>
  if r_1.2 = true then
   (z8q cs r_1.1 t x7 rule depth).bind fun r_2 =>
   some r_2
  else
   some ([], [], false)
 else
  some ([], [], false)
instance k6v {cs : TyA} {t : q7} {x7 : Int} {rule : Int} {depth : Int} : y3 (c4q cs t x7 rule depth) fun rr => x6 Tryz.prog 32 [.d (.agg [z7 1 iD cs.1, z7 3 q9 cs.2]), .d (z7 1 iD t), .d (iD x7), .d (iD rule), .d (iD depth)] [] 0 fun xx ss => xx = .tup [.agg [.own 1 900000 (List.map iD rr.1), .own 3 900001 (List.map z5 rr.2.1)], .d (bD rr.2.2)] /\ ss = [(900000, .tok 2 1 rr.1.length), (900001, .nst 151 3 rr.2.1.length (j7 (List.map z5 rr.2.1)))] := ⟨@fun rr h => by
 delta c4q at h
 refine fn32.callsD (q6 ?_)
 delta mc32
 refine v5 ?_
 refine rCN h fun r hr h => ?_
 refine it h (fun hc h => ?_) fun hc h => ?_
 ·refine rCN h fun r_1 hr_1 h => ?_
  refine it h (fun hc h => ?_) fun hc h => ?_
  ·refine rCo [] [(900000, 42), (900001, 200000)] h fun r_2 hr_2 h => ?_
   cases h
   exact x9.trans ((x9.trans (x9.move 42 900000 (ob := .tok 2 1 rr.1.length) (by omega) (by omega) (by omega) rfl (by first | rfl | (simp; done) | (simp [sat, q0m, j8, p8, k3f, k0m, Ob.ren, Ob.kill, m8]; done))) (x9.trans (x9.move 200000 900001 (ob := .nst 151 3 rr.2.1.length (j7 (List.map z5 rr.2.1))) (by omega) (by omega) (by omega) rfl (by first | rfl | (simp; done) | (simp [sat, q0m, j8, p8, k3f, k0m, Ob.ren, Ob.kill, m8]; done))) (x9.drops [5, 10, 14] (by simp))))) (x9.told frd don)
  cases h
  exact x9.trans ((x9.trans (x9.thawT 900000 2 1 (.tup [.agg [.own 1 900000 (List.map iD []), .d (.sl 0 (some true) [])], .d (bD false)]) (by first | rfl | simp [sat]) (by repeat' (first | exact TW.nil | refine TW.tup ?_ | refine TW.aggD ?_ | refine TW.agg ?_ | refine TWs.cons ?_ ?_ | exact TWs.nil | exact TW.refl))) (x9.trans (x9.thawD 900001 151 3 (.tup [.agg [.own 1 900000 (List.map iD []), .own 3 900001 (List.map z5 [])], .d (bD false)]) (by first | rfl | simp [sat]) (by repeat' (first | exact TW.nil | refine TW.tup ?_ | refine TW.aggD ?_ | refine TW.agg ?_ | refine TWs.cons ?_ ?_ | exact TWs.nil | exact TW.refl))) (x9.drops [5, 10, 14] (by simp))))) (x9.told frd don)
 cases h
 exact x9.trans ((x9.trans (x9.thawT 900000 2 1 (.tup [.agg [.own 1 900000 (List.map iD []), .d (.sl 0 (some true) [])], .d (bD false)]) (by first | rfl | simp [sat]) (by repeat' (first | exact TW.nil | refine TW.tup ?_ | refine TW.aggD ?_ | refine TW.agg ?_ | refine TWs.cons ?_ ?_ | exact TWs.nil | exact TW.refl))) (x9.trans (x9.thawD 900001 151 3 (.tup [.agg [.own 1 900000 (List.map iD []), .own 3 900001 (List.map z5 [])], .d (bD false)]) (by first | rfl | simp [sat]) (by repeat' (first | exact TW.nil | refine TW.tup ?_ | refine TW.aggD ?_ | refine TW.agg ?_ | refine TWs.cons ?_ ?_ | exact TWs.nil | exact TW.refl))) (x9.drops [5, 10] (by simp))))) (x9.told frd don)⟩
end Go.Proofs.YtklfjpilhbkekaaGreat
