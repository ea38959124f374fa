/- A part of the proof about FnUnravelled (U2). -/
import Derived.Test.YtelhemjlfkbkeaaGreatUg
set_option linter.all false
noncomputable section
namespace Go.Proofs.YtelhemjlfkbkeaaGreat
open Go oe
attribute [local irreducible] xL zb yK oW pM sV pO Er FY CG FX Cg yg pT rE EZ jr oN
set_option maxHeartbeats 4000000
set_option maxRecDepth 4000
def pK:gR:=
 (.seq (.gz (sq 2 [.mv (.const (.slice none 0 0))])) (.seq (.seq (.gz (sq 3 [mv 0,.xT false (t0 3)])) (.cond (t0 4) (.seq (.gz (sq 2 [.mv (.const (.slice none 0 0))])) .ret) .skip)) (.seq (.gz (sq 5 [.yY 5 2 1 [],mv 0,ap 7 2 1 8 5 6]++sq 2 [mv 7])) .ret)))
theorem uy:lE Tryz.prog 56 pK 8 [.tmp 2]:=mf Tryz.func56 Tryz.ntmps56
def jM(s:fI):Option fI:=
 LQ s (
  some []) (
  if(0+s.length)*8<=140737488355328 then
   some s
  else none)
instance Ck{s:fI}:iH (jM s) fun rr=>hY Tryz.prog 56 [.d (gN 1 iD s)] [] 0 fun xx ss=>xx=.mL 1 900000 rr.length/\ss=[(900000,.lO 2 1 rr.length (jT iD rr))]:=⟨@fun rr h=>by
 delta jM at h;refine uy.uw (gv ?_);delta pK;refine iL ?_;have h1:=Hh h;refine yg.of (fun he=>?_) ?_
 ·replace h:=h1.1 (by simpa using he);clear h1;refine iL ?_;cases h;exact gx.trans ((gx.Qg 900000 2 1 (.mL 1 900000 0) (by simp[sat]) (by repeat' (first|exact TL.nil|refine TL.oz ?_|refine TL.YE ?_|refine TL.agg ?_|refine QF.cons ?_ ?_|exact QF.nil|exact TL.refl)))) (gx.told q_ lC)
 ·replace h:=h1.2;clear h1;refine iL ?_;refine kz h fun hp h=>?_
  cases h;exact gx.trans ((gx.move 5 900000 (ob:=.lO 2 1 s.length (jT iD s)) gu gu gu rfl (by first|rfl|(simp;done)|(simp[sat,iG,sset,gS,jv,gJ,Ob.hG,Ob.kill,gw];done)))) (gx.told q_ lC)⟩
def XS:gR:=
 (.seq (.gz (sq 2 [.mv (.const (.slice none 0 0))])) (.seq (.gz (sq 3 [.mv (.const (.slice none 0 0))])) (.seq (.seq (.gz (sq 4 [mi 0])) (.block 0 (.loop (.seq (.seq (.gz (sq 5 [mv 4,bi .lss 5 24])) (.cond (t0 6) .skip (.exit 0))) (.seq (.block 1 (.seq (.gz (sq 9 [mv 0,mv 4,.bin .sub (i0 (-1)) (t0 10),cf 96 [9,11]])) (.cond (t0 12) (.gz (sq 13 [mv 3,mv 4,.mH 15 2 1 [(t0 14)],ap 16 2 1 8 13 15]++sq 3 [mv 16])) .skip))) (.gz (sq 7 [mv 4,bi .add 7 1]++sq 4 [mv 8]))))))) (.seq (.gz (sq 17 [mv 3]++sq 2 [mv 17])) .ret))))
theorem ZV:lE Tryz.prog 95 XS 18 [.tmp 2]:=mf Tryz.func95 Tryz.ntmps95
def qe(t:fI):fO->Option gj
 |(out,i)=>
  if(decide (i<24))=true then
   (jb t (IntKind.i64.wrap ((-1)-i))).bind fun r=>
   if r=true then
    if(out.length+1)*8<=140737488355328 then
     some (.inl ((out++[i]),(IntKind.i64.wrap (i+1))))
    else none
   else
    some (.inl (out,(IntKind.i64.wrap (i+1))))
  else
   Option.map Sum.inr (
    some out)
def qP(t:fI):Option fI:=
 gI (qe t) ([],0)
instance QI{t:fI}:iH (qP t) fun rr=>lz Tryz.prog 95 [(gN 1 iD) t] ((gN 1 iD) rr):=⟨@fun rr h=>by
 delta qP at h;refine ZV.jO (gv ?_);delta XS;refine iL ?_;refine rZ h [3,4,5,6,7,8,9,10,11,12,13,14,15,16] (fun pp=>[(3,.own 1 16 (List.map iD pp.1)),(4,.d (iD pp.2))]) (fun pp=>[(16,.tok 2 1 pp.1.length)]) ?_ ?_
 ·try dsimp only
  refine(iB.Yp 3 16 2 1 rfl rfl).trans ?_;exact wk
 rintro⟨out,i⟩ t1 h hb1;unfold qe at h;try dsimp only at h
 refine gv (iL ?_);refine iT h fun hc h=>?_
 refine rC h fun r hr h=>?_
 refine iT h fun hc h=>?_
 refine kz h fun hp h=>?_
 cases h;refine⟨_,rfl,?_⟩;refine(iB.drop 15 gu).trans ?_;exact wk⟩
def vF:gR:=
 (.seq (.gz (sq 2 [bo 2 55 0]++sq 4 [.mv (.const (.slice none 0 0))])) (.seq (.draw (sq 12 [fa 0 2,ld 12,cf 56 [13],fa 2 2,ld 15,mv 1,ix 2 16 17,fa 1 18,ld 19,fa 1 2,ld 21,.mH 23 24 1 [(t0 20),(t0 22)],cf 92 [23]]++sq 5 [mv 14,mv 24]) [[],[0],[1],[],[3],[],[4,5],[6],[7],[],[9],[8,10],[11,2],[2,12,0,1,2],[12,13,0,1,2,3,4,5,6,7,8,9,10,11,12,13]]) (.seq (.seq (.gz (sq 25 [fa 2 2,ld 25,ln 26,mi 0])) (.block 0 (.loop (.seq (.gz (sq 29 [bn .lss 28 27])) (.seq (.cond (t0 29) .skip (.exit 0)) (.seq (.block 1 (.seq (.gz (sq 30 [mv 28,ix 2 26 28,la 2 31]++sq 8 [.alloc 8 89 [.sl 0 (some true) [],.sl 0 (some true) []]]++sq 7 [mv 30]++s0 (sr 2 8 32))) (.seq (.seq (.gz (sq 33 [mv 7,mv 1,bn .lss 33 34])) (.cond (t0 35) (.gz (sq 36 [mv 5,fa 1 8,ld 37,ap 39 2 1 8 36 38]++sq 5 [mv 39])) .skip)) (.seq (.gz (sq 40 [mv 7,mv 1,bn .gtr 40 41])) (.cond (t0 42) (.gz (sq 43 [mv 6,fa 0 8,ld 44,fa 1 8,ld 46,.mH 48 24 1 [(t0 43),(t0 45),(t0 47)],cf 92 [48]]++sq 6 [mv 49])) .skip))))) (.gz (sq 50 [bi .add 28 1]++sq 28 [mv 50])))))))) (.seq (.gz (sq 9 [.mv (.const (.slice none 0 0))])) (.seq (.seq (.ghost (.gz (sq 51 [mv 5,cf 95 [51],ln 52,mi 0]))) (.block 2 (.loop (.seq (.gz (sq 55 [bn .lss 54 53])) (.seq (.cond (t0 55) .skip (.exit 2)) (.seq (.block 3 (.seq (.gz (sq 56 [ix 1 52 54,ld 56]++sq 11 [mv 57])) (.seq (.gz (sq 58 [mv 6,mv 11,.bin .sub (i0 (-1)) (t0 59),cf 96 [58,60]])) (.cond (t0 61) (.gz (sq 62 [mv 9,mv 11,.mH 64 2 1 [(t0 63)],ap 65 2 1 8 62 64]++sq 9 [mv 65])) .skip)))) (.gz (sq 66 [bi .add 54 1]++sq 54 [mv 66])))))))) (.seq (.gz (sq 67 [mv 9]++sq 4 [mv 67])) .ret))))))
theorem zo:lE Tryz.prog 57 vF 68 [.tmp 4]:=mf Tryz.func57 Tryz.ntmps57
def lG(behind:fI)(r_5:fI):fO->Option gj
 |(out,v54)=>
  if(decide (v54<(r_5.length:Int)))=true then
   if 0<=v54/\v54<(r_5.length:Int)then
    (jb behind (IntKind.i64.wrap ((-1)-(r_5.getD v54.toNat default)))).bind fun r_6=>
    if r_6=true then
     if(out.length+1)*8<=140737488355328 then
      some (.inl ((out++[(r_5.getD v54.toNat default)]),(IntKind.i64.wrap (v54+1))))
     else none
    else
     some (.inl (out,(IntKind.i64.wrap (v54+1))))
   else none
  else
   Option.map Sum.inr (
    some out)
def mB(r:fV)(cond:Int):(fI×Int×fI)->Option ((fI×Int×fI)⊕fI)
 |(behind,v28,g14)=>
  if(decide (v28<(r.2.2.length:Int)))=true then
   if 0<=v28/\v28<(r.2.2.length:Int)then
    if(decide (v28<cond))=true then
     if(g14.length+((r.2.2.getD v28.toNat default).2).length)*8<=140737488355328 then
      if(decide (cond<v28))=true then
       (iy [behind,(r.2.2.getD v28.toNat default).1,(r.2.2.getD v28.toNat default).2]).bind fun r_3=>
       some (.inl (r_3,(IntKind.i64.wrap (v28+1)),(g14++(r.2.2.getD v28.toNat default).2)))
      else
       some (.inl (behind,(IntKind.i64.wrap (v28+1)),(g14++(r.2.2.getD v28.toNat default).2)))
     else none
    else
     if(decide (cond<v28))=true then
      (iy [behind,(r.2.2.getD v28.toNat default).1,(r.2.2.getD v28.toNat default).2]).bind fun r_4=>
      some (.inl (r_4,(IntKind.i64.wrap (v28+1)),g14))
     else
      some (.inl (behind,(IntKind.i64.wrap (v28+1)),g14))
   else none
  else
   Option.map Sum.inr (
    (qP g14).bind fun r_5=>
    gI (lG behind r_5) ([],0))
def nP(r:fV)(cond:Int):Option fI:=
 (jM r.1).bind fun r_1=>
 if 0<=cond/\cond<(r.2.2.length:Int)then
  (iy [(r.2.2.getD cond.toNat default).2,r.2.1]).bind fun r_2=>
  gI (mB r cond) (r_2,0,r_1)
 else none
instance KO{r:fV}{cond:Int}:iH (nP r cond) fun rr=>lz Tryz.prog 57 [gB r,iD cond] ((gN 1 iD) rr):=⟨@fun rr h=>by
 delta nP at h;refine zo.jO (gv ?_);delta vF;refine iL ?_;refine wu [] [(900000,14)] h fun r_1 hr_1 h=>?_
 refine kz h fun hp h=>?_
 refine wu [] [(24,24)] h fun r_2 hr_2 h=>?_
 refine jo (by kernel_rfl) (iL ?_);refine jV h [5,6,7,8,28,29,30,31,32,33,34,35,36,37,38,39,40,41,42,43,44,45,46,47,48,49,50] (fun pp=>[(5,.mL 1 14 pp.2.2.length),(6,.d (gN 1 iD pp.1)),(28,.d (iD pp.2.1))]) (fun pp=>[(2,.obj 55 [.d (gN 1 iD r.1),.d (gN 1 iD r.2.1),.d (gN 2 ir r.2.2)]),(14,.lO 2 1 pp.2.2.length (jT iD pp.2.2)),(23,.tok 24 1 2),(24,.tok 2 1 r_2.length)]) ?_;rintro⟨behind,v28,g14⟩ t1 h hb1;unfold mB at h;try dsimp only at h
 refine gv (iL ?_);refine it h (fun hc h=>?_) fun hc h=>?_
 ·refine kz h fun hp h=>?_
  refine it h (fun hc h=>?_) fun hc h=>?_
  ·refine kz h fun hp h=>?_
   refine it h (fun hc h=>?_) fun hc h=>?_
   ·refine mA [] [(24,49)] h fun r_3 hr_3 h=>?_
    cases h;refine⟨_,rfl,?_⟩;refine(iB.drop 8 gu).trans ?_;refine(iB.drop 48 gu).trans ?_;refine(iB.drop 49 gu).trans ?_;exact wk
   cases h;refine⟨_,rfl,?_⟩;refine(iB.drop 8 gu).trans ?_;exact wk
  refine it h (fun hc h=>?_) fun hc h=>?_
  ·refine mA [] [(24,49)] h fun r_4 hr_4 h=>?_
   cases h;refine⟨_,rfl,?_⟩;refine(iB.drop 8 gu).trans ?_;refine(iB.drop 48 gu).trans ?_;refine(iB.drop 49 gu).trans ?_;exact wk
  cases h;refine⟨_,rfl,?_⟩;refine(iB.drop 8 gu).trans ?_;exact wk
 replace h:=g_ h hb1;refine pO.of ((iB.fz 14 iD rfl g14)) ?_;refine Vr ?_;refine iL ?_;refine rC h fun r_5 hr_5 h=>?_
 refine rZ h [9,11,54,55,56,57,58,59,60,61,62,63,64,65,66] (fun pp=>[(9,.own 1 65 (List.map iD pp.1)),(54,.d (iD pp.2))]) (fun pp=>[(2,.obj 55 [.d (gN 1 iD r.1),.d (gN 1 iD r.2.1),.d (gN 2 ir r.2.2)]),(23,.tok 24 1 2),(24,.tok 2 1 r_2.length),(65,.tok 2 1 pp.1.length)]) ?_ ?_
 ·try dsimp only
  refine(iB.Yp 9 65 2 1 rfl rfl).trans ?_;exact wk
 rintro⟨out,v54⟩ t1 h hb1;unfold lG at h;try dsimp only at h
 refine gv (iL ?_);refine iT h fun hc h=>?_
 refine kz h fun hp h=>?_
 refine rC h fun r_6 hr_6 h=>?_
 refine iT h fun hc h=>?_
 refine kz h fun hp h=>?_
 cases h;refine⟨_,rfl,?_⟩;refine(iB.drop 64 gu).trans ?_;exact wk⟩
def Xi:gR:=
 (.seq (.gz (sq 6 [.mv (.const (.slice none 0 0))])) (.seq (.gz (sq 10 [mv 0,.mH 11 2 1 [(t0 10)],mv 1,.mH 13 24 1 [(t0 11),(t0 12)],cf 92 [13]]++sq 7 [mv 14])) (.seq (.seq (.gz (sq 15 [mv 2,ln 15,mi 0])) (.block 0 (.loop (.seq (.gz (sq 18 [bn .lss 17 16])) (.seq (.cond (t0 18) .skip (.exit 0)) (.seq (.block 1 (.seq (.gz (sq 19 [ix 1 15 17,ld 19]++sq 9 [mv 20])) (.gz (sq 21 [mv 7,mv 9,.bin .sub (i0 (-1)) (t0 22),.mH 24 2 1 [(t0 23)],ap 25 2 1 8 21 24]++sq 7 [mv 25])))) (.gz (sq 26 [bi .add 17 1]++sq 17 [mv 26])))))))) (.seq (.gz (sq 27 [mv 7]++sq 6 [mv 27])) .ret))))
theorem Zq:lE Tryz.prog 58 Xi 28 [.tmp 6]:=mf Tryz.func58 Tryz.ntmps58
def sP(vars:fI):fO->Option gj
 |(out,v17)=>
  if(decide (v17<(vars.length:Int)))=true then
   if 0<=v17/\v17<(vars.length:Int)then
    if(out.length+1)*8<=140737488355328 then
     some (.inl ((out++[(IntKind.i64.wrap ((-1)-(vars.getD v17.toNat default)))]),(IntKind.i64.wrap (v17+1))))
    else none
   else none
  else
   Option.map Sum.inr (
    some out)
def rQ(symbol:Int)(t:fI)(vars:fI):Option fI:=
 (iy [[symbol],t]).bind fun r=>
 gI (sP vars) (r,0)
instance Rq{symbol:Int}{t:fI}{vars:fI}:iH (rQ symbol t vars) fun rr=>lz Tryz.prog 58 [iD symbol,(gN 1 iD) t,(gN 1 iD) vars] ((gN 1 iD) rr):=⟨@fun rr h=>by
 delta rQ at h;refine Zq.jO (gv ?_);delta Xi;refine iL ?_;refine mA [] [(24,14)] h fun r hr h=>?_
 refine jV h [7,9,17,18,19,20,21,22,23,24,25,26] (fun pp=>[(7,.own 1 14 (List.map iD pp.1)),(17,.d (iD pp.2))]) (fun pp=>[(11,.tok 2 1 1),(13,.tok 24 1 2),(14,.tok 2 1 pp.1.length)]) ?_;rintro⟨out,v17⟩ t1 h hb1;unfold sP at h;try dsimp only at h
 refine gv (iL ?_);refine iT h fun hc h=>?_
 refine kz h fun hp h=>?_
 refine kz h fun hp h=>?_
 cases h;refine⟨_,rfl,?_⟩;refine(iB.drop 24 gu).trans ?_;exact wk⟩
def sx:gR:=
 (.seq (.gz (sq 1 [bo 1 29 0,.alloc 2 41 [.sl 0 (some true) [],.sl 0 (some true) []],mb false])) (.seq (.gz (sq 12 [fa 0 1,fa 0 12,ld 13,cf 56 [14],.build [.sl 0 (some true) []] [(0,1,(t0 15))],.build [.sl 0 (some true) [],.sl 0 (some true) []] [(0,1,(t0 16))]]++sq 4 [.alloc 4 41 [.sl 0 (some true) [],.sl 0 (some true) []]]++s0 (sr 2 4 17))) (.seq (.seq (.gz (sq 18 [fa 1 1,ld 18,ln 19,mi 0])) (.block 0 (.loop (.seq (.gz (sq 22 [bn .lss 21 20])) (.seq (.cond (t0 22) .skip (.exit 0)) (.seq (.block 1 (.seq (.gz (sq 23 [ix 3 19 21,la 3 23]++sq 6 [.alloc 6 55 [.sl 0 (some true) [],.sl 0 (some true) [],.sl 0 (some true) []]]++s0 (sr 3 6 24))) (.seq (.gz (sq 25 [fa 0 6,ld 25,cf 56 [26]]++sq 7 [mv 27])) (.seq (.seq (.gz (sq 28 [fa 2 6,ld 28,ln 29,mi 0])) (.block 2 (.loop (.seq (.gz (sq 32 [bn .lss 31 30])) (.seq (.cond (t0 32) .skip (.exit 2)) (.seq (.block 3 (.seq (.gz (sq 33 [mv 31,ix 2 29 31,la 2 34]++sq 9 [.alloc 9 89 [.sl 0 (some true) [],.sl 0 (some true) []]]++sq 8 [mv 33]++s0 (sr 2 9 35))) (.seq (.draw (sq 36 [fa 0 4,fa 0 36,ld 37,ln 38,la 3 6,mv 8,cf 57 [40,41]]++sq 10 [mv 39,mv 42]) [[],[0],[1],[2],[],[],[4,5],[3,6,0,1,2,3],[6,7,0,1,2,3,4,5,6,7]]) (.seq (.gz (sq 43 [fa 0 4,fa 0 43,ld 44,mv 11,ln 46,.bin .add (i0 1) (t0 47),.mH 49 2 1 [(t0 48)],ap 50 2 1 8 45 49,fa 0 4,fa 0 51]++s0 (sr 1 52 50))) (.seq (.draw (sq 53 [fa 1 4,ld 53,mv 7,mv 10,fa 0 9,ld 57,mv 11,cf 58 [56,58,59],.build [.sl 0 (some true) [],.sl 0 (some true) []] [(0,1,(t0 55)),(1,1,(t0 60))],.mH 62 68 2 [(t0 61)],ap 63 68 2 48 54 62,fa 1 4]++s0 (sr 1 64 63)) [[],[0],[],[],[],[4],[],[3,5,6],[2,7],[8],[1,9,7],[0,1,2,3,4,5,6,7,8,9,10],[11,10,10,0,1,2,3,4,5,6,7,8,9,10]]) (.gz (sq 65 [mv 10,fa 1 9,ld 66,mv 11,cf 58 [65,67,68]]++sq 7 [mv 69]))))))) (.gz (sq 70 [bi .add 31 1]++sq 31 [mv 70])))))))) (.draw (sq 71 [fa 1 4,ld 71,mv 7,fa 1 6,ld 74,cf 56 [75],.build [.sl 0 (some true) [],.sl 0 (some true) []] [(0,1,(t0 73)),(1,1,(t0 76))],.mH 78 68 2 [(t0 77)],ap 79 68 2 48 72 78,fa 1 4]++s0 (sr 1 80 79)) [[],[0],[],[],[3],[4],[2,5],[6],[1,7,5],[0,1,2,3,4,5,6,7,8],[9,8,8,0,1,2,3,4,5,6,7,8]]))))) (.gz (sq 81 [bi .add 21 1]++sq 21 [mv 81])))))))) (.seq (.ghost (.draw (sq 82 [la 2 4,la 2 4,cf 59 [83]]++s0 (sr 2 2 82)++sq 3 [mv 84]) [[],[],[1],[0,2,0],[2,3,0,1,2,3]])) .ret))))
theorem wS:lE Tryz.prog 24 sx 85 [.cell 2 2 true,.tmp 3]:=mf Tryz.func24 Tryz.ntmps24
def kP(cs:gm)(v21:Int):(fI×Int×fI×fP)->Option ((fI×Int×fI×fP)⊕(gr⊕(fW×Bool)))
 |(left,v31,g15_1,out_1)=>
  if(decide (v31<(((cs.2.getD v21.toNat default).2.2).length:Int)))=true then
   if 0<=v31/\v31<(((cs.2.getD v21.toNat default).2.2).length:Int)then
    (nP ((cs.2.getD v21.toNat default).1,(cs.2.getD v21.toNat default).2.1,(cs.2.getD v21.toNat default).2.2) v31).bind fun r_2=>
    if(g15_1.length+1)*8<=140737488355328 then
     (rQ (g15_1.length:Int) ((((cs.2.getD v21.toNat default).2.2).getD v31.toNat default).1) r_2).bind fun r_3=>
     if(out_1.length+1)*48<=140737488355328 then
      (rQ (g15_1.length:Int) ((((cs.2.getD v21.toNat default).2.2).getD v31.toNat default).2) r_2).bind fun r_4=>
      some (.inl (r_4,(IntKind.i64.wrap (v31+1)),(g15_1++[(IntKind.i64.wrap (1+(r_2.length:Int)))]),(out_1++[(left,r_3)])))
     else none
    else none
   else none
  else
   Option.map Sum.inr (
    (iW ((cs.2.getD v21.toNat default).2.1)).bind fun r_5=>
    if(out_1.length+1)*48<=140737488355328 then
     some (.inl ((IntKind.i64.wrap (v21+1)),g15_1,(out_1++[(left,r_5)])))
    else none)
def lX(cs:gm):gr->Option (gr⊕(fW×Bool))
 |(v21,g15,out)=>
  if(decide (v21<(cs.2.length:Int)))=true then
   if 0<=v21/\v21<(cs.2.length:Int)then
    (iW ((cs.2.getD v21.toNat default).1)).bind fun r_1=>
    gI (kP cs v21) (r_1,0,g15,out)
   else none
  else
   Option.map Sum.inr (
    (oX (g15,out)).bind fun r_6=>
    some ((g15,out),r_6))
def lQ(cs:gm):Option (fW×Bool):=
 (jM cs.1).bind fun r=>
 gI (lX cs) (0,r,[])
instance F9{cs:gm}:iH (lQ cs) fun rr=>ki Tryz.prog 24 [gP cs] [jg rr.1,bD rr.2]:=⟨@fun rr h=>by
 delta lQ at h;refine wS.mK (gv ?_);delta sx;refine iL ?_;refine mA [] [(900000,15)] h fun r hr h=>?_
 refine rZ h [6,7,8,9,10,11,21,22,23,24,25,26,27,28,29,30,31,32,33,34,35,36,37,38,39,40,41,42,43,44,45,46,47,48,49,50,51,52,53,54,55,56,57,58,59,60,61,62,63,64,65,66,67,68,69,70,71,72,73,74,75,76,77,78,79,80,81] (fun pp=>[(21,.d (iD pp.1))]) (fun pp=>[(1,.obj 29 [.d (gN 1 iD cs.1),.d (gN 3 gB cs.2)]),(2,.obj 41 [.d (.sl 0 (some true) []),.d (.sl 0 (some true) [])]),(4,.obj 41 [.mL 1 15 pp.2.1.length,.own 2 63 (List.map jL pp.2.2)]),(15,.lO 2 1 pp.2.1.length (jT iD pp.2.1)),(63,.tok 68 2 pp.2.2.length)]) ?_ ?_
 ·try dsimp only
  refine(iB.yb 4 1 63 68 2 rfl rfl rfl).trans ?_;exact wk
 rintro⟨v21,g15,out⟩ t1 h hb1;unfold lX at h;try dsimp only at h
 refine gv (iL ?_);refine it h (fun hc h=>?_) fun hc h=>?_
 ·refine kz h fun hp h=>?_
  refine rC h fun r_1 hr_1 h=>?_
  refine jV h [7,8,9,10,11,31,32,33,34,35,36,37,38,39,40,41,42,43,44,45,46,47,48,49,50,51,52,53,54,55,56,57,58,59,60,61,62,63,64,65,66,67,68,69,70] (fun pp=>[(7,.d (gN 1 iD pp.1)),(31,.d (iD pp.2.1))]) (fun pp=>[(1,.obj 29 [.d (gN 1 iD cs.1),.d (gN 3 gB cs.2)]),(2,.obj 41 [.d (.sl 0 (some true) []),.d (.sl 0 (some true) [])]),(4,.obj 41 [.mL 1 15 pp.2.2.1.length,.own 2 63 (List.map jL pp.2.2.2)]),(6,.obj 55 [.d (gN 1 iD ((cs.2.getD v21.toNat default).1)),.d (gN 1 iD ((cs.2.getD v21.toNat default).2.1)),.d (gN 2 ir ((cs.2.getD v21.toNat default).2.2))]),(15,.lO 2 1 pp.2.2.1.length (jT iD pp.2.2.1)),(63,.tok 68 2 pp.2.2.2.length)]) ?_;rintro⟨left,v31,g15_1,out_1⟩ t2 h hb2;unfold kP at h;try dsimp only at h
  refine gv (iL ?_);refine it h (fun hc h=>?_) fun hc h=>?_
  ·refine kz h fun hp h=>?_
   refine dC h fun r_2 hr_2 h=>?_
   refine jo (by kernel_rfl) (iL ?_);refine kz h fun hp h=>?_
   refine dC h fun r_3 hr_3 h=>?_
   refine kz h fun hp h=>?_
   refine jo (by kernel_rfl) (iL ?_);refine rC h fun r_4 hr_4 h=>?_
   cases h;refine⟨_,rfl,?_⟩;refine(iB.drop 9 gu).trans ?_;refine(iB.drop 49 gu).trans ?_;refine(iB.drop 62 gu).trans ?_;exact wk
  replace h:=g_ h hb2;refine dC h fun r_5 hr_5 h=>?_
  refine kz h fun hp h=>?_
  refine jo (by kernel_rfl) (iL ?_);cases h;refine⟨_,rfl,?_⟩;refine(iB.drop 6 gu).trans ?_;refine(iB.drop 78 gu).trans ?_;exact wk
 replace h:=g_ h hb1;refine pO.of ((iB.fz 15 iD rfl g15)) ?_;refine Vr ?_;refine iL ?_;exact od⟩
def WB:gR:=
 (.seq (.gz (sq 1 [bo 1 29 0,.alloc 2 41 [.sl 0 (some true) [],.sl 0 (some true) []],mb false])) (.seq (.seq (.gz (sq 6 [la 2 1,cf 28 [6],nt 7])) (.cond (t0 8) (.seq (.gz (sq 9 [.build [.sl 0 (some true) [],.sl 0 (some true) []] []]++s0 (sr 2 2 9)++sq 3 [mb false])) .ret) .skip)) (.seq (.gz (sq 11 [la 2 1,cf 24 [11]]++sq 10 [mv 12]++sq 13 [ex 10 0,ex 10 1]++sq 4 [.alloc 4 41 [.sl 0 (some true) [],.sl 0 (some true) []]]++s0 (sr 2 4 13)++sq 5 [mv 14])) (.seq (.seq (.gz (sq 15 [mv 5,nt 15])) (.cond (t0 16) (.seq (.gz (sq 17 [.build [.sl 0 (some true) [],.sl 0 (some true) []] []]++s0 (sr 2 2 17)++sq 3 [mb false])) .ret) .skip)) (.seq (.gz (sq 18 [la 2 4]++s0 (sr 2 2 18)++sq 3 [mb true])) .ret)))))
theorem YM:lE Tryz.prog 10 WB 19 [.cell 2 2 true,.tmp 3]:=mf Tryz.func10 Tryz.ntmps10
def pn(cs:gm):Option (fW×Bool):=
 (oB cs).bind fun r=>
 if r=true then
  (lQ cs).bind fun r_1=>
  if r_1.2=true then
   some (r_1.1,true)
  else
   some (([],[]),false)
 else
  some (([],[]),false)
instance KP{cs:gm}:iH (pn cs) fun rr=>ki Tryz.prog 10 [gP cs] [jg rr.1,bD rr.2]:=⟨@fun rr h=>by
 delta pn at h;refine YM.mK (gv ?_);delta WB;refine iL ?_;exact od⟩
def WW:gR:=
 (.seq (.gz (sq 2 [bo 2 55 0]++sq 4 [.mv (.const (.slice none 0 0))])) (.seq (.gz (sq 11 [.mH 11 2 1 [],fa 0 2,ld 12,cf 75 [11,13]]++sq 5 [mv 14])) (.seq (.seq (.gz (sq 6 [mi 0])) (.block 0 (.loop (.seq (.seq (.gz (sq 15 [mv 6,mv 1,bn .lss 15 16])) (.cond (t0 17) .skip (.exit 0))) (.seq (.block 1 (.gz (sq 20 [mv 5,fa 2 2,ld 21,mv 6,ix 2 22 23,fa 1 24,ld 25,cf 75 [20,26]]++sq 5 [mv 27]))) (.gz (sq 18 [mv 6,bi .add 18 1]++sq 6 [mv 19]))))))) (.seq (.draw (sq 28 [.mH 28 2 1 [],fa 1 2,ld 29,cf 75 [28,30],fa 2 2,ld 32,mv 1,ix 2 33 34,fa 1 35,ld 36,cf 75 [31,37]]++sq 7 [mv 38]) [[],[],[1],[0,2],[],[4],[],[5,6],[7],[8],[3,9,3],[10,10,0,1,2,3,4,5,6,7,8,9,10]]) (.seq (.seq (.gz (sq 39 [mv 1,bi .add 39 1]++sq 8 [mv 40])) (.block 2 (.loop (.seq (.seq (.gz (sq 41 [mv 8,fa 2 2,ld 42,ln 43,bn .lss 41 44])) (.cond (t0 45) .skip (.exit 2))) (.seq (.block 3 (.draw (sq 48 [mv 7,fa 2 2,ld 49,mv 8,ix 2 50 51,fa 0 52,ld 53,cf 75 [48,54],fa 2 2,ld 56,mv 8,ix 2 57 58,fa 1 59,ld 60,cf 75 [55,61]]++sq 7 [mv 62]) [[],[],[1],[],[2,3],[4],[5],[0,6],[],[8],[],[9,10],[11],[12],[7,13,7],[14,14,0,1,2,3,4,5,6,7,8,9,10,11,12,13,14]])) (.gz (sq 46 [mv 8,bi .add 46 1]++sq 8 [mv 47]))))))) (.seq (.gz (sq 63 [.mH 63 2 1 []]++sq 9 [mv 63])) (.seq (.seq (.gz (sq 10 [mi 0])) (.block 4 (.loop (.seq (.seq (.gz (sq 64 [mv 10,mv 5,ln 65,bn .lss 64 66])) (.cond (t0 67) .skip (.exit 4))) (.seq (.block 5 (.seq (.gz (sq 70 [mv 7,mv 5,mv 10,ix 1 71 72,ld 73,cf 76 [70,74]])) (.cond (t0 75) (.gz (sq 76 [mv 9,mv 5,mv 10,ix 1 77 78,ld 79,.mH 81 2 1 [(t0 80)],ap 82 2 1 8 76 81]++sq 9 [mv 82])) .skip))) (.gz (sq 68 [mv 10,bi .add 68 1]++sq 10 [mv 69]))))))) (.seq (.gz (sq 83 [mv 9]++sq 4 [mv 83])) .ret))))))))
theorem Y5:lE Tryz.prog 31 WW 84 [.tmp 4]:=mf Tryz.func31 Tryz.ntmps31
def nV(known:fI)(needed:fI):fO->Option gj
 |(out,i_2)=>
  if(decide (i_2<(known.length:Int)))=true then
   if 0<=i_2/\i_2<(known.length:Int)then
    (lV needed (known.getD i_2.toNat default)).bind fun r_7=>
    if r_7=true then
     if 0<=i_2/\i_2<(known.length:Int)then
      if(out.length+1)*8<=140737488355328 then
       some (.inl ((out++[(known.getD i_2.toNat default)]),(IntKind.i64.wrap (i_2+1))))
      else none
     else none
    else
     some (.inl (out,(IntKind.i64.wrap (i_2+1))))
   else none
  else
   Option.map Sum.inr (
    some out)
def nU(r:fV)(known:fI):fO->Option gj
 |(needed,i_1)=>
  if(decide (i_1<(r.2.2.length:Int)))=true then
   if 0<=i_1/\i_1<(r.2.2.length:Int)then
    (kF needed ((r.2.2.getD i_1.toNat default).1)).bind fun r_5=>
    if 0<=i_1/\i_1<(r.2.2.length:Int)then
     (kF r_5 ((r.2.2.getD i_1.toNat default).2)).bind fun r_6=>
     some (.inl (r_6,(IntKind.i64.wrap (i_1+1))))
    else none
   else none
  else
   Option.map Sum.inr (
    gI (nV known needed) ([],0))
def pH(r:fV)(cond:Int):fO->Option gj
 |(known,i)=>
  if(decide (i<cond))=true then
   if 0<=i/\i<(r.2.2.length:Int)then
    (kF known ((r.2.2.getD i.toNat default).2)).bind fun r_2=>
    some (.inl (r_2,(IntKind.i64.wrap (i+1))))
   else none
  else
   Option.map Sum.inr (
    (kF [] r.2.1).bind fun r_3=>
    if 0<=cond/\cond<(r.2.2.length:Int)then
     (kF r_3 ((r.2.2.getD cond.toNat default).2)).bind fun r_4=>
     gI (nU r known) (r_4,(IntKind.i64.wrap (cond+1)))
    else none)
def mS(r:fV)(cond:Int):Option fI:=
 (kF [] r.1).bind fun r_1=>
 gI (pH r cond) (r_1,0)
instance Od{r:fV}{cond:Int}:iH (mS r cond) fun rr=>lz Tryz.prog 31 [gB r,iD cond] ((gN 1 iD) rr):=⟨@fun rr h=>by
 delta mS at h;refine Y5.jO (gv ?_);delta WW;refine iL ?_;refine rC h fun r_1 hr_1 h=>?_
 refine jV h [5,6,15,16,17,18,19,20,21,22,23,24,25,26,27] (fun pp=>[(5,.d (gN 1 iD pp.1)),(6,.d (iD pp.2))]) (fun pp=>[(2,.obj 55 [.d (gN 1 iD r.1),.d (gN 1 iD r.2.1),.d (gN 2 ir r.2.2)]),(11,.tok 2 1 0)]) ?_;rintro⟨known,i⟩ t1 h hb1;unfold pH at h;try dsimp only at h
 refine gv (iL ?_);refine iF h fun hc h=>?_
 replace h:=g_ h hb1;refine dC h fun r_3 hr_3 h=>?_
 refine kz h fun hp h=>?_
 refine dC h fun r_4 hr_4 h=>?_
 refine jo (by kernel_rfl) (iL ?_);refine jV h [7,8,41,42,43,44,45,46,47,48,49,50,51,52,53,54,55,56,57,58,59,60,61,62] (fun pp=>[(7,.d (gN 1 iD pp.1)),(8,.d (iD pp.2))]) (fun pp=>[(2,.obj 55 [.d (gN 1 iD r.1),.d (gN 1 iD r.2.1),.d (gN 2 ir r.2.2)]),(11,.tok 2 1 0),(28,.tok 2 1 0)]) ?_;rintro⟨needed,i_1⟩ t1 h hb1;unfold nU at h;try dsimp only at h
 refine gv (iL ?_);refine iF h fun hc h=>?_
 replace h:=g_ h hb1;refine jV h [9,10,64,65,66,67,68,69,70,71,72,73,74,75,76,77,78,79,80,81,82] (fun pp=>[(9,.own 1 63 (List.map iD pp.1)),(10,.d (iD pp.2))]) (fun pp=>[(2,.obj 55 [.d (gN 1 iD r.1),.d (gN 1 iD r.2.1),.d (gN 2 ir r.2.2)]),(11,.tok 2 1 0),(28,.tok 2 1 0),(63,.tok 2 1 pp.1.length)]) ?_;rintro⟨out,i_2⟩ t1 h hb1;unfold nV at h;try dsimp only at h
 refine gv (iL ?_);refine iT h fun hc h=>?_
 refine kz h fun hp h=>?_
 refine rC h fun r_7 hr_7 h=>?_
 refine iT h fun hc h=>?_
 refine kz h fun hp h=>?_
 refine kz h fun hp h=>?_
 cases h;refine⟨_,rfl,?_⟩;refine(iB.drop 81 gu).trans ?_;exact wk⟩
def Xz:gR:=
 (.seq (.gz (sq 6 [.mv (.const (.slice none 0 0))])) (.seq (.gz (sq 9 [mv 0,.mH 10 2 1 [(t0 9)],mv 1,ap 12 2 1 8 10 11]++sq 7 [mv 12])) (.seq (.seq (.gz (sq 8 [mi 0])) (.block 0 (.loop (.seq (.seq (.gz (sq 13 [mv 8,mv 2,ln 14,bn .lss 13 15])) (.cond (t0 16) .skip (.exit 0))) (.seq (.block 1 (.gz (sq 19 [mv 7,mv 2,mv 8,ix 1 20 21,ld 22,.bin .sub (i0 (-1)) (t0 23),.mH 25 2 1 [(t0 24)],ap 26 2 1 8 19 25]++sq 7 [mv 26]))) (.gz (sq 17 [mv 8,bi .add 17 1]++sq 8 [mv 18]))))))) (.seq (.gz (sq 27 [mv 7]++sq 6 [mv 27])) .ret))))
theorem ZE:lE Tryz.prog 74 Xz 28 [.tmp 6]:=mf Tryz.func74 Tryz.ntmps74
def qY(vars:fI):fO->Option gj
 |(out,i)=>
  if(decide (i<(vars.length:Int)))=true then
   if 0<=i/\i<(vars.length:Int)then
    if(out.length+1)*8<=140737488355328 then
     some (.inl ((out++[(IntKind.i64.wrap ((-1)-(vars.getD i.toNat default)))]),(IntKind.i64.wrap (i+1))))
    else none
   else none
  else
   Option.map Sum.inr (
    some out)
def oM(sym:Int)(t:fI)(vars:fI):Option fI:=
 if(1+t.length)*8<=140737488355328 then
  gI (qY vars) (([sym]++t),0)
 else none
instance Oh{sym:Int}{t:fI}{vars:fI}:iH (oM sym t vars) fun rr=>lz Tryz.prog 74 [iD sym,(gN 1 iD) t,(gN 1 iD) vars] ((gN 1 iD) rr):=⟨@fun rr h=>by
 delta oM at h;refine ZE.jO (gv ?_);delta Xz;refine iL ?_;refine kz h fun hp h=>?_
 refine jV h [7,8,13,14,15,16,17,18,19,20,21,22,23,24,25,26] (fun pp=>[(7,.own 1 10 (List.map iD pp.1)),(8,.d (iD pp.2))]) (fun pp=>[(10,.tok 2 1 pp.1.length)]) ?_;rintro⟨out,i⟩ t1 h hb1;unfold qY at h;try dsimp only at h
 refine gv (iL ?_);refine iT h fun hc h=>?_
 refine kz h fun hp h=>?_
 refine kz h fun hp h=>?_
 cases h;refine⟨_,rfl,?_⟩;refine(iB.drop 25 gu).trans ?_;exact wk⟩
def WV:gR:=
 (.seq (.gz (sq 2 [bo 2 55 0]++sq 4 [.mv (.const (.slice none 0 0))])) (.seq (.seq (.gz (sq 9 [fa 2 2,ld 9,ln 10,bi .eql 11 0])) (.cond (t0 12) (.seq (.draw (sq 13 [fa 0 2,ld 13,cf 27 [14],fa 1 2,ld 16,cf 27 [17],.build [.sl 0 (some true) [],.sl 0 (some true) []] [(0,1,(t0 15)),(1,1,(t0 18))],.mH 20 68 2 [(t0 19)]]++sq 4 [mv 20]) [[],[0],[1],[],[3],[4,2],[2,5],[6],[7,5,0,1,2,3,4,5,6,7]]) .ret) .skip)) (.seq (.draw (sq 21 [fa 0 2,ld 21,cf 27 [22],mv 1,fa 2 2,ld 25,.CY 2 (t0 26) (i0 0),fa 0 27,ld 28,la 3 2,.ji 31 [(t0 30),(i0 0)],cf 74 [24,29,31],.build [.sl 0 (some true) [],.sl 0 (some true) []] [(0,1,(t0 23)),(1,1,(t0 32))],.mH 34 68 2 [(t0 33)]]++sq 5 [mv 34]) [[],[0],[1],[],[],[4],[5],[6],[7],[],[9,2],[3,8,10,10],[2,11],[12],[13,11,0,1,2,3,4,5,6,7,8,9,10,11,12,13]]) (.seq (.seq (.gz (sq 6 [mi 0])) (.block 0 (.loop (.seq (.seq (.gz (sq 35 [mv 6,fa 2 2,ld 36,ln 37,bn .lss 35 38])) (.cond (t0 39) .skip (.exit 0))) (.seq (.block 1 (.seq (.draw (sq 42 [mv 1,mv 6,bn .add 42 43,fa 2 2,ld 45,mv 6,ix 2 46 47,fa 1 48,ld 49,la 3 2,mv 6,cf 31 [51,52],cf 74 [44,50,53]]++sq 7 [mv 54]) [[],[],[0,1],[],[3],[],[4,5],[6],[7],[],[],[9,10],[2,8,11,11],[12,12,0,1,2,3,4,5,6,7,8,9,10,11,12]]) (.seq (.gz (sq 55 [fa 1 2,ld 55,cf 27 [56]]++sq 8 [mv 57])) (.seq (.seq (.gz (sq 58 [mv 6,bi .add 58 1,fa 2 2,ld 60,ln 61,bn .lss 59 62])) (.cond (t0 63) (.draw (sq 64 [mv 1,mv 6,bn .add 64 65,bi .add 66 1,fa 2 2,ld 68,mv 6,bi .add 70 1,ix 2 69 71,fa 0 72,ld 73,la 3 2,mv 6,bi .add 76 1,cf 31 [75,77],cf 74 [67,74,78]]++sq 8 [mv 79]) [[],[],[0,1],[2],[],[4],[],[6],[5,7],[8],[9],[],[],[12],[11,13],[3,10,14,14],[15,15,0,1,2,3,4,5,6,7,8,9,10,11,12,13,14,15]]) .skip)) (.gz (sq 80 [mv 5,mv 7,mv 8,.build [.sl 0 (some true) [],.sl 0 (some true) []] [(0,1,(t0 81)),(1,1,(t0 82))],.mH 84 68 2 [(t0 83)],ap 85 68 2 48 80 84]++sq 5 [mv 85])))))) (.gz (sq 40 [mv 6,bi .add 40 1]++sq 6 [mv 41]))))))) (.seq (.gz (sq 86 [mv 5]++sq 4 [mv 86])) .ret)))))
theorem Y4:lE Tryz.prog 30 WV 87 [.tmp 4]:=mf Tryz.func30 Tryz.ntmps30
def oL(r:fV)(sym:Int):(fP×Int)->Option ((fP×Int)⊕fP)
 |(out,i)=>
  if(decide (i<(r.2.2.length:Int)))=true then
   if 0<=i/\i<(r.2.2.length:Int)then
    (mS r i).bind fun r_6=>
    (oM (IntKind.i64.wrap (sym+i)) ((r.2.2.getD i.toNat default).2) r_6).bind fun r_7=>
    (iX r.2.1).bind fun r_8=>
    if(decide ((IntKind.i64.wrap (i+1))<(r.2.2.length:Int)))=true then
     if 0<=(IntKind.i64.wrap (i+1))/\(IntKind.i64.wrap (i+1))<(r.2.2.length:Int)then
      (mS r (IntKind.i64.wrap (i+1))).bind fun r_9=>
      (oM (IntKind.i64.wrap ((IntKind.i64.wrap (sym+i))+1)) ((r.2.2.getD (IntKind.i64.wrap (i+1)).toNat default).1) r_9).bind fun r_10=>
      if(out.length+1)*48<=140737488355328 then
       some (.inl ((out++[(r_7,r_10)]),(IntKind.i64.wrap (i+1))))
      else none
     else none
    else
     if(out.length+1)*48<=140737488355328 then
      some (.inl ((out++[(r_7,r_8)]),(IntKind.i64.wrap (i+1))))
     else none
   else none
  else
   Option.map Sum.inr (
    some out)
def o_(r:fV)(sym:Int):Option fP:=
 if((r.2.2.length:Int)==0)=true then
  (iX r.1).bind fun r_1=>
  (iX r.2.1).bind fun r_2=>
  some [(r_1,r_2)]
 else
  (iX r.1).bind fun r_3=>
  if 0<=0/\0<(r.2.2.length:Int)then
   (mS r 0).bind fun r_4=>
   (oM sym ((r.2.2.getD 0 default).1) r_4).bind fun r_5=>
   gI (oL r sym) ([(r_3,r_5)],0)
  else none
instance Nt{r:fV}{sym:Int}:iH (o_ r sym) fun rr=>lz Tryz.prog 30 [gB r,iD sym] ((gN 2 jL) rr):=⟨@fun rr h=>by
 delta o_ at h;refine Y4.jO (gv ?_);delta WV;refine iL ?_;refine it h (fun hc h=>?_) fun hc h=>?_
 ·refine wu [] [(3,15)] h fun r_1 hr_1 h=>?_
  refine wu [] [(3,18)] h fun r_2 hr_2 h=>?_
  exact od
 refine wu [] [(3,23)] h fun r_3 hr_3 h=>?_
 refine kz h fun hp h=>?_
 refine dC h fun r_4 hr_4 h=>?_
 refine dC h fun r_5 hr_5 h=>?_
 refine jo (by kernel_rfl) (iL ?_);refine jV h [5,6,7,8,35,36,37,38,39,40,41,42,43,44,45,46,47,48,49,50,51,52,53,54,55,56,57,58,59,60,61,62,63,64,65,66,67,68,69,70,71,72,73,74,75,76,77,78,79,80,81,82,83,84,85] (fun pp=>[(5,.own 2 34 (List.map jL pp.1)),(6,.d (iD pp.2))]) (fun pp=>[(2,.obj 55 [.d (gN 1 iD r.1),.d (gN 1 iD r.2.1),.d (gN 2 ir r.2.2)]),(23,.tok 2 1 r_3.length),(34,.tok 68 2 pp.1.length)]) ?_;rintro⟨out,i⟩ t1 h hb1;unfold oL at h;try dsimp only at h
 refine gv (iL ?_);refine iT h fun hc h=>?_
 refine kz h fun hp h=>?_
 refine dC h fun r_6 hr_6 h=>?_
 refine dC h fun r_7 hr_7 h=>?_
 refine jo (by kernel_rfl) (iL ?_);refine mA [] [(3,57)] h fun r_8 hr_8 h=>?_
 refine it h (fun hc h=>?_) fun hc h=>?_
 ·refine kz h fun hp h=>?_
  refine dC h fun r_9 hr_9 h=>?_
  refine dC h fun r_10 hr_10 h=>?_
  refine jo (by kernel_rfl) (iL ?_);refine kz h fun hp h=>?_
  cases h;refine⟨_,rfl,?_⟩;refine(iB.drop 57 gu).trans ?_;refine(iB.drop 84 gu).trans ?_;exact wk
 refine kz h fun hp h=>?_
 cases h;refine⟨_,rfl,?_⟩;refine(iB.drop 57 gu).trans ?_;refine(iB.drop 84 gu).trans ?_;exact wk⟩
def WC:gR:=
 (.seq (.gz (sq 1 [bo 1 29 0,.alloc 2 41 [.sl 0 (some true) [],.sl 0 (some true) []],mb false])) (.seq (.seq (.gz (sq 8 [la 2 1,cf 29 [8],nt 9])) (.cond (t0 10) (.seq (.gz (sq 11 [.build [.sl 0 (some true) [],.sl 0 (some true) []] []]++s0 (sr 2 2 11)++sq 3 [mb false])) .ret) .skip)) (.seq (.gz (sq 12 [fa 0 1,fa 0 12,ld 13,cf 27 [14],.build [.sl 0 (some true) []] [(0,1,(t0 15))],.build [.sl 0 (some true) [],.sl 0 (some true) []] [(0,1,(t0 16))]]++sq 4 [.alloc 4 41 [.sl 0 (some true) [],.sl 0 (some true) []]]++s0 (sr 2 4 17))) (.seq (.seq (.gz (sq 5 [mi 0])) (.block 0 (.loop (.seq (.seq (.gz (sq 18 [mv 5,fa 1 1,ld 19,ln 20,bn .lss 18 21])) (.cond (t0 22) .skip (.exit 0))) (.seq (.block 1 (.seq (.gz (sq 25 [fa 1 1,ld 25,mv 5,ix 3 26 27,la 3 28]++sq 6 [.alloc 6 55 [.sl 0 (some true) [],.sl 0 (some true) [],.sl 0 (some true) []]]++s0 (sr 3 6 29))) (.seq (.draw (sq 30 [fa 1 4,ld 30,la 3 6,fa 0 4,fa 0 33,ld 34,ln 35,cf 30 [32,36],ap 38 68 2 48 31 37,fa 1 4]++s0 (sr 1 39 38)) [[],[0],[],[],[3],[4],[5],[2,6],[1,7,7],[0,1,2,3,4,5,6,7,8],[9,8,8,0,1,2,3,4,5,6,7,8]]) (.seq (.gz (sq 7 [mi 0])) (.block 2 (.loop (.seq (.seq (.gz (sq 40 [mv 7,fa 2 6,ld 41,ln 42,bn .lss 40 43])) (.cond (t0 44) .skip (.exit 2))) (.seq (.block 3 (.draw (sq 47 [fa 0 4,fa 0 47,ld 48,la 3 6,mv 7,cf 31 [50,51],ln 52,.bin .add (i0 1) (t0 53),.mH 55 2 1 [(t0 54)],ap 56 2 1 8 49 55,fa 0 4,fa 0 57]++s0 (sr 1 58 56)) [[],[0],[1],[],[],[3,4],[5],[6],[7],[2,8,5],[0,1,2,3,4,5,6,7,8,9],[10,0,1,2,3,4,5,6,7,8,9],[11,9,9,0,1,2,3,4,5,6,7,8,9]])) (.gz (sq 45 [mv 7,bi .add 45 1]++sq 7 [mv 46])))))))))) (.gz (sq 23 [mv 5,bi .add 23 1]++sq 5 [mv 24]))))))) (.seq (.seq (.gz (sq 59 [la 2 4,cf 13 [59],nt 60])) (.cond (t0 61) (.seq (.gz (sq 62 [.build [.sl 0 (some true) [],.sl 0 (some true) []] []]++s0 (sr 2 2 62)++sq 3 [mb false])) .ret) .skip)) (.seq (.gz (sq 63 [la 2 4]++s0 (sr 2 2 63)++sq 3 [mb true])) .ret))))))
theorem YN:lE Tryz.prog 11 WC 64 [.cell 2 2 true,.tmp 3]:=mf Tryz.func11 Tryz.ntmps11
def mC(cs:gm)(i:Int)(out_1:fP)(r_2:fP):gq->Option (gq⊕(gr⊕(fW×Bool)))
 |(k,out_2)=>
  if(decide (k<(((cs.2.getD i.toNat default).2.2).length:Int)))=true then
   (mS ((cs.2.getD i.toNat default).1,(cs.2.getD i.toNat default).2.1,(cs.2.getD i.toNat default).2.2) k).bind fun r_3=>
   if(out_2.length+1)*8<=140737488355328 then
    some (.inl ((IntKind.i64.wrap (k+1)),(out_2++[(IntKind.i64.wrap (1+(r_3.length:Int)))])))
   else none
  else
   Option.map Sum.inr (
    some (.inl ((IntKind.i64.wrap (i+1)),out_2,(out_1++r_2))))
def nK(cs:gm):gr->Option (gr⊕(fW×Bool))
 |(i,out,out_1)=>
  if(decide (i<(cs.2.length:Int)))=true then
   if 0<=i/\i<(cs.2.length:Int)then
    (o_ ((cs.2.getD i.toNat default).1,(cs.2.getD i.toNat default).2.1,(cs.2.getD i.toNat default).2.2) (out.length:Int)).bind fun r_2=>
    if(out_1.length+r_2.length)*48<=140737488355328 then
     gI (mC cs i out_1 r_2) (0,out)
    else none
   else none
  else
   Option.map Sum.inr (
    (nc (out,out_1)).bind fun r_4=>
    if r_4=true then
     some ((out,out_1),true)
    else
     some (([],[]),false))
def nT(cs:gm):Option (fW×Bool):=
 (kW cs).bind fun r=>
 if r=true then
  (iX cs.1).bind fun r_1=>
  gI (nK cs) (0,r_1,[])
 else
  some (([],[]),false)
instance KR{cs:gm}:iH (nT cs) fun rr=>ki Tryz.prog 11 [gP cs] [jg rr.1,bD rr.2]:=⟨@fun rr h=>by
 delta nT at h;refine YN.mK (gv ?_);delta WC;refine iL ?_;refine rC h fun r hr h=>?_
 refine iT h fun hc h=>?_
 refine mA [] [(3,15)] h fun r_1 hr_1 h=>?_
 refine rZ h [5,6,7,18,19,20,21,22,23,24,25,26,27,28,29,30,31,32,33,34,35,36,37,38,39,40,41,42,43,44,45,46,47,48,49,50,51,52,53,54,55,56,57,58] (fun pp=>[(5,.d (iD pp.1))]) (fun pp=>[(1,.obj 29 [.d (gN 1 iD cs.1),.d (gN 3 gB cs.2)]),(2,.obj 41 [.d (.sl 0 (some true) []),.d (.sl 0 (some true) [])]),(4,.obj 41 [.own 1 15 (List.map iD pp.2.1),.own 2 38 (List.map jL pp.2.2)]),(15,.tok 2 1 pp.2.1.length),(38,.tok 68 2 pp.2.2.length)]) ?_ ?_
 ·try dsimp only
  refine(iB.yb 4 1 38 68 2 rfl rfl rfl).trans ?_;exact wk
 rintro⟨i,out,out_1⟩ t1 h hb1;unfold nK at h;try dsimp only at h
 refine gv (iL ?_);refine iT h fun hc h=>?_
 refine kz h fun hp h=>?_
 refine dC h fun r_2 hr_2 h=>?_
 refine kz h fun hp h=>?_
 refine jo (by kernel_rfl) (iL ?_);refine jV h [7,40,41,42,43,44,45,46,47,48,49,50,51,52,53,54,55,56,57,58] (fun pp=>[(7,.d (iD pp.1))]) (fun pp=>[(1,.obj 29 [.d (gN 1 iD cs.1),.d (gN 3 gB cs.2)]),(2,.obj 41 [.d (.sl 0 (some true) []),.d (.sl 0 (some true) [])]),(4,.obj 41 [.own 1 15 (List.map iD pp.2),.own 2 38 (List.map jL (out_1++r_2))]),(6,.obj 55 [.d (gN 1 iD ((cs.2.getD i.toNat default).1)),.d (gN 1 iD ((cs.2.getD i.toNat default).2.1)),.d (gN 2 ir ((cs.2.getD i.toNat default).2.2))]),(15,.tok 2 1 pp.2.length),(38,.tok 68 2 ((out_1++r_2).length))]) ?_;rintro⟨k,out_2⟩ t2 h hb2;unfold mC at h;try dsimp only at h
 refine gv (iL ?_);refine it h (fun hc h=>?_) fun hc h=>?_
 ·refine dC h fun r_3 hr_3 h=>?_
  refine kz h fun hp h=>?_
  refine jo (by kernel_rfl) (iL ?_);cases h;refine⟨_,rfl,?_⟩;refine(iB.drop 55 gu).trans ?_;exact wk
 replace h:=g_ h hb2;cases h;refine⟨_,rfl,?_⟩;refine(iB.drop 6 gu).trans ?_;exact wk⟩
end Go.Proofs.YtelhemjlfkbkeaaGreat
