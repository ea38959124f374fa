/- A part of the proof about FnUnravelled (U1). -/
import Derived.Test.YtelhemjlfkbkeaaGreatUf
set_option linter.all false
noncomputable section
namespace Go.Proofs.YtelhemjlfkbkeaaGreat
open Go oe
attribute [local irreducible] xL zb yK oW pM sV pO Er FY CG FX Cg yg pT rE EZ jr oN
set_option maxHeartbeats 4000000
set_option maxRecDepth 4000
def ir(x:fJ):D:=.agg [(gN 1 iD) x.1,(gN 1 iD) x.2]
def gB(x:fV):D:=.agg [(gN 1 iD) x.1,(gN 1 iD) x.2.1,(gN 2 ir) x.2.2]
def gP(x:gm):D:=.agg [(gN 1 iD) x.1,(gN 3 gB) x.2]
instance:uK ir 2:=⟨fun _=>rfl⟩
instance:uK gB 3:=⟨fun _=>rfl⟩
instance:uK gP 2:=⟨fun _=>rfl⟩
attribute [go_sem] ir gB gP
def Tv:gR:=
 (.seq (.gz (sq 2 [bo 2 26 0,bo 3 89 1,mb false])) (.seq (.gz (sq 5 [la 1 2,fa 0 3,ld 6,cf 45 [5,7],mv 8]++sg 9 true 10 [la 1 2,fa 1 3,ld 11,cf 45 [10,12]]++sq 14 [pa 9 13]++sq 4 [mv 14])) .ret))
theorem V0:lE Tryz.prog 102 Tv 15 [.tmp 4]:=mf Tryz.func102 Tryz.ntmps102
def tj(sig:fI)(e:fJ):Option Bool:=
 (mg sig e.1).bind fun r=>
 if r=true then
  (mg sig e.2).bind fun r_1=>
  some r_1
 else
  some false
instance Ta{sig:fI}{e:fJ}:iH (tj sig e) fun rr=>lz Tryz.prog 102 [iZ sig,ir e] (bD rr):=⟨@fun rr h=>by
 delta tj at h;refine V0.jO (gv ?_);delta Tv;refine iL ?_;exact od⟩
def TJ:gR:=
 (.seq (.gz (sq 3 [mb false])) (.seq (.gz (sq 4 [mv 0,ld 1,cf 96 [4,5]]++sq 3 [mv 6])) .ret))
theorem We:lE Tryz.prog 120 TJ 7 [.tmp 3]:=mf Tryz.func120 Tryz.ntmps120
def t_(u:fI)(o0:Int):Option Bool:=
 (jb u o0).bind fun r=>
 some r
instance N5{u:fI}{o0:Int}:iH (t_ u o0) fun rr=>hY Tryz.prog 120 [.d (gN 1 iD u),.ptr 0 0] [(0,.obj 2 [.d (iD o0)])] 1 fun xx ss=>xx=.d (bD rr)/\ss=[(0,.obj 2 [.d (iD o0)])]:=⟨@fun rr h=>by
 delta t_ at h;refine We.nN (gv ?_);delta TJ;refine iL ?_;exact od⟩
def TQ:gR:=
 (.seq (.gz (sq 4 [mi 0])) (.seq (.seq (.gz (sq 6 [mv 0,ln 6,mi 0])) (.block 0 (.loop (.seq (.gz (sq 9 [bn .lss 8 7])) (.seq (.cond (t0 9) .skip (.exit 0)) (.seq (.block 1 (.seq (.gz (sq 10 [mv 8]++sq 5 [mv 10])) (.seq (.gz (sq 11 [mv 1,mv 0,mv 5,ix 1 12 13,ld 14,.zk (t0 11) [(t0 15)]])) (.cond (t0 16) (.seq (.gz (sq 17 [mv 5]++sq 4 [mv 17])) .ret) .skip)))) (.gz (sq 18 [bi .add 8 1]++sq 8 [mv 18])))))))) (.seq (.gz (sq 4 [mi (-1)])) .ret)))
theorem Wk:lE Tryz.prog 126 TQ 19 [.tmp 4]:=mf Tryz.func126 Tryz.ntmps126
def jR(s:fM)(o0:Int):Int->Option (Int⊕Int)
 |v8=>
  if(decide (v8<(s.length:Int)))=true then
   if 0<=v8/\v8<(s.length:Int)then
    (t_ (s.getD v8.toNat default) o0).bind fun r=>
    if r=true then
     Option.map Sum.inr (
      some v8)
    else
     some (.inl (IntKind.i64.wrap (v8+1)))
   else none
  else
   Option.map Sum.inr (
    some (-1))
def lT(s:fM)(o0:Int):Option Int:=
 gI (jR s o0) 0
instance BL{s:fM}{o0:Int}:iH (lT s o0) fun rr=>hY Tryz.prog 126 [.d (gN 1 (gN 1 iD) s),.fn 120 [] [.ptr 0 0]] [(0,.obj 2 [.d (iD o0)])] 1 fun xx ss=>xx=.d (iD rr)/\ss=[(0,.obj 2 [.d (iD o0)])]:=⟨@fun rr h=>by
 delta lT at h;refine Wk.nN (gv ?_);delta TQ;refine iL ?_;refine jV h [4,5,8,9,10,11,12,13,14,15,16,17,18] (fun pp=>[(8,.d (iD pp))]) (fun pp=>[(0,.obj 2 [.d (iD o0)])]) ?_;rintro v8 t1 h hb1;unfold jR at h;try dsimp only at h
 refine gv (iL ?_);refine iT h fun hc h=>?_
 refine kz h fun hp h=>?_
 refine uD (by kernel_rfl) ?_;refine mA [(0,0)] [] h fun r hr h=>?_
 exact od⟩
def TI:gR:=
 (.seq (.gz (sq 4 [mb false])) (.seq (.gz (sq 5 [mv 0,mv 1,cf 126 [5,6],bi .geq 7 0]++sq 4 [mv 8])) .ret))
theorem Wd:lE Tryz.prog 119 TI 9 [.tmp 4]:=mf Tryz.func119 Tryz.ntmps119
def jQ(s:fM)(o0:Int):Option Bool:=
 (lT s o0).bind fun r=>
 some (decide (0<=r))
instance AK{s:fM}{o0:Int}:iH (jQ s o0) fun rr=>hY Tryz.prog 119 [.d (gN 1 (gN 1 iD) s),.fn 120 [] [.ptr 0 0]] [(0,.obj 2 [.d (iD o0)])] 1 fun xx ss=>xx=.d (bD rr)/\ss=[(0,.obj 2 [.d (iD o0)])]:=⟨@fun rr h=>by
 delta jQ at h;refine Wd.nN (gv ?_);delta TI;refine iL ?_;refine mA [(0,0)] [] h fun r hr h=>?_
 exact od⟩
def Tw:gR:=
 (.seq (.gz (sq 4 [mb false])) (.seq (.seq (.gz (sq 7 [mv 0,ln 7,mi 0])) (.block 0 (.loop (.seq (.gz (sq 10 [bn .lss 9 8])) (.seq (.cond (t0 10) .skip (.exit 0)) (.seq (.block 1 (.seq (.gz (sq 11 [ix 1 7 9,ld 11]++sq 6 [.alloc 6 2 [.lit (.int .i64 0)]]++s0 (sr 1 6 12))) (.seq (.gz (sq 13 [ld 6,bi .lss 13 0,mv 14]++sg 15 true 16 [mv 1,.DS 120 [] [(t0 6)],cf 119 [16,17],nt 18]++sq 20 [pa 15 19])) (.cond (t0 20) (.seq (.gz (sq 4 [mb false])) .ret) .skip)))) (.gz (sq 21 [bi .add 9 1]++sq 9 [mv 21])))))))) (.seq (.gz (sq 4 [mb true])) .ret)))
theorem V1:lE Tryz.prog 103 Tw 22 [.tmp 4]:=mf Tryz.func103 Tryz.ntmps103
def sO(t:fI)(others:fM):Int->Option fZ
 |v9=>
  if(decide (v9<(t.length:Int)))=true then
   if 0<=v9/\v9<(t.length:Int)then
    if(decide ((t.getD v9.toNat default)<0))=true then
     (jQ others (t.getD v9.toNat default)).bind fun r=>
     if r=true then
      some (.inl (IntKind.i64.wrap (v9+1)))
     else
      Option.map Sum.inr (
       some false)
    else
     some (.inl (IntKind.i64.wrap (v9+1)))
   else none
  else
   Option.map Sum.inr (
    some true)
def qz(t:fI)(others:fM):Option Bool:=
 gI (sO t others) 0
instance Rm{t:fI}{others:fM}:iH (qz t others) fun rr=>lz Tryz.prog 103 [(gN 1 iD) t,(gN 1 (gN 1 iD)) others] (bD rr):=⟨@fun rr h=>by
 delta qz at h;refine V1.jO (gv ?_);delta Tw;refine iL ?_;refine jV h [4,6,9,10,11,12,13,14,15,16,17,18,19,20,21] (fun pp=>[(9,.d (iD pp))]) (fun pp=>[]) ?_;rintro v9 t1 h hb1;unfold sO at h;try dsimp only at h
 refine gv (iL ?_);refine iT h fun hc h=>?_
 refine kz h fun hp h=>?_
 refine it h (fun hc h=>?_) fun hc h=>?_
 ·refine mA [(0,6)] [] h fun r hr h=>?_
  refine iT h fun hc h=>?_
  cases h;refine⟨_,rfl,?_⟩;refine(iB.drop 6 gu).trans ?_;exact wk
 cases h;refine⟨_,rfl,?_⟩;refine(iB.drop 6 gu).trans ?_;exact wk⟩
def Xv:gR:=
 (.seq (.gz (sq 2 [bo 2 26 0,bo 3 55 1,mb false])) (.seq (.seq (.gz (sq 8 [la 1 2,fa 0 3,ld 9,cf 45 [8,10],nt 11,mv 12]++sg 13 false 14 [la 1 2,fa 1 3,ld 15,cf 45 [14,16],nt 17]++sq 19 [po 13 18,mv 19]++sg 20 false 21 [fa 0 3,ld 21,.CY 1 (t0 22) (i0 0),ld 23,bi .lss 24 0]++sq 26 [po 20 25,mv 26]++sg 27 false 28 [fa 2 3,ld 28,ln 29,bi .gtr 30 2]++sq 32 [po 27 31])) (.cond (t0 32) (.seq (.gz (sq 4 [mb false])) .ret) .skip)) (.seq (.gz (sq 33 [fa 0 3,ld 33,.mH 35 24 1 [(t0 34)]]++sq 5 [mv 35])) (.seq (.seq (.gz (sq 36 [fa 2 3,ld 36,ln 37,mi 0])) (.block 0 (.loop (.seq (.gz (sq 40 [bn .lss 39 38])) (.seq (.cond (t0 40) .skip (.exit 0)) (.seq (.block 1 (.seq (.gz (sq 41 [ix 2 37 39,la 2 41]++sq 7 [.alloc 7 89 [.sl 0 (some true) [],.sl 0 (some true) []]]++s0 (sr 2 7 42))) (.seq (.seq (.gz (sq 43 [la 1 2,la 2 7,cf 102 [43,44],nt 45,mv 46]++sg 47 false 48 [fa 0 7,ld 48,mv 5,cf 103 [49,50],nt 51]++sq 53 [po 47 52])) (.cond (t0 53) (.seq (.gz (sq 4 [mb false])) .ret) .skip)) (.gz (sq 54 [mv 5,fa 1 7,ld 55,.mH 57 24 1 [(t0 56)],ap 58 24 1 24 54 57]++sq 5 [mv 58]))))) (.gz (sq 59 [bi .add 39 1]++sq 39 [mv 59])))))))) (.seq (.gz (sq 60 [fa 1 3,ld 60,mv 5,cf 103 [61,62]]++sq 4 [mv 63])) .ret)))))
theorem ZC:lE Tryz.prog 72 Xv 64 [.tmp 4]:=mf Tryz.func72 Tryz.ntmps72
def nO(sig:fI)(r:fV):(fM×Int)->Option ((fM×Int)⊕Bool)
 |(bound,v39)=>
  if(decide (v39<(r.2.2.length:Int)))=true then
   if 0<=v39/\v39<(r.2.2.length:Int)then
    (tj sig ((r.2.2.getD v39.toNat default).1,(r.2.2.getD v39.toNat default).2)).bind fun r_3=>
    if r_3=true then
     (qz ((r.2.2.getD v39.toNat default).1) bound).bind fun r_4=>
     if r_4=true then
      if(bound.length+1)*24<=140737488355328 then
       some (.inl ((bound++[(r.2.2.getD v39.toNat default).2]),(IntKind.i64.wrap (v39+1))))
      else none
     else
      Option.map Sum.inr (
       some false)
    else
     Option.map Sum.inr (
      some false)
   else none
  else
   Option.map Sum.inr (
    (qz r.2.1 bound).bind fun r_5=>
    some r_5)
def qc(sig:fI)(r:fV):Option Bool:=
 (mg sig r.1).bind fun r_1=>
 if r_1=true then
  (mg sig r.2.1).bind fun r_2=>
  if r_2=true then
   if 0<=0/\0<(r.1.length:Int)then
    if(decide ((r.1.getD 0 default)<0))=true then
     some false
    else
     if(decide (2<(r.2.2.length:Int)))=true then
      some false
     else
      gI (nO sig r) ([r.1],0)
   else none
  else
   some false
 else
  some false
instance N1{sig:fI}{r:fV}:iH (qc sig r) fun rr=>lz Tryz.prog 72 [iZ sig,gB r] (bD rr):=⟨@fun rr h=>by
 delta qc at h;refine ZC.jO (gv ?_);delta Xv;refine iL ?_;refine rC h fun r_1 hr_1 h=>?_
 refine iT h fun hc h=>?_
 refine rC h fun r_2 hr_2 h=>?_
 refine iT h fun hc h=>?_
 refine kz h fun hp h=>?_
 refine iF h fun hc h=>?_
 refine iF h fun hc h=>?_
 refine jV h [4,5,7,39,40,41,42,43,44,45,46,47,48,49,50,51,52,53,54,55,56,57,58,59] (fun pp=>[(5,.own 1 35 (List.map (gN 1 iD) pp.1)),(39,.d (iD pp.2))]) (fun pp=>[(2,.obj 26 [.d (gN 1 iD sig)]),(3,.obj 55 [.d (gN 1 iD r.1),.d (gN 1 iD r.2.1),.d (gN 2 ir r.2.2)]),(35,.tok 24 1 pp.1.length)]) ?_;rintro⟨bound,v39⟩ t1 h hb1;unfold nO at h;try dsimp only at h
 refine gv (iL ?_);refine iT h fun hc h=>?_
 refine kz h fun hp h=>?_
 refine rC h fun r_3 hr_3 h=>?_
 refine iT h fun hc h=>?_
 refine rC h fun r_4 hr_4 h=>?_
 refine iT h fun hc h=>?_
 refine kz h fun hp h=>?_
 cases h;refine⟨_,rfl,?_⟩;refine(iB.drop 7 gu).trans ?_;refine(iB.drop 57 gu).trans ?_;exact wk⟩
def Xu:gR:=
 (.seq (.gz (sq 2 [bo 2 55 0,mb false])) (.seq (.gz (sq 4 [fa 0 1,la 1 4,la 3 2,cf 72 [5,6],nt 7]++sq 3 [mv 8])) .ret))
theorem ZB:lE Tryz.prog 71 Xu 9 [.tmp 3]:=mf Tryz.func71 Tryz.ntmps71
def qw(r:fV)(o00:fI)(o01:ga):Option Bool:=
 (qc o00 r).bind fun r_1=>
 some (!r_1)
instance Jb{r:fV}{o00:fI}{o01:ga}:iH (qw r o00 o01) fun rr=>hY Tryz.prog 71 [.d (.agg [gN 1 iD r.1,gN 1 iD r.2.1,gN 2 ir r.2.2]),.ptr 0 0] [(0,.obj 29 [.d (gN 1 iD o00),.d (gN 3 gB o01)])] 1 fun xx ss=>xx=.d (bD rr)/\ss=[(0,.obj 29 [.d (gN 1 iD o00),.d (gN 3 gB o01)])]:=⟨@fun rr h=>by
 delta qw at h;refine ZB.nN (gv ?_);delta Xu;refine iL ?_;refine rC h fun r_1 hr_1 h=>?_
 cases h;exact⟨[2],by simp,lC,lC⟩⟩
def Tu:gR:=
 (.seq (.gz (sq 4 [mi 0])) (.seq (.seq (.gz (sq 6 [mv 0,ln 6,mi 0])) (.block 0 (.loop (.seq (.gz (sq 9 [bn .lss 8 7])) (.seq (.cond (t0 9) .skip (.exit 0)) (.seq (.block 1 (.seq (.gz (sq 10 [mv 8]++sq 5 [mv 10])) (.seq (.gz (sq 11 [mv 1,mv 0,mv 5,ix 3 12 13,la 3 14,.zk (t0 11) [(t0 15)]])) (.cond (t0 16) (.seq (.gz (sq 17 [mv 5]++sq 4 [mv 17])) .ret) .skip)))) (.gz (sq 18 [bi .add 8 1]++sq 8 [mv 18])))))))) (.seq (.gz (sq 4 [mi (-1)])) .ret)))
theorem VZ:lE Tryz.prog 101 Tu 19 [.tmp 4]:=mf Tryz.func101 Tryz.ntmps101
def ja(s:ga)(o00:fI)(o01:ga):Int->Option (Int⊕Int)
 |v8=>
  if(decide (v8<(s.length:Int)))=true then
   if 0<=v8/\v8<(s.length:Int)then
    (qw ((s.getD v8.toNat default).1,(s.getD v8.toNat default).2.1,(s.getD v8.toNat default).2.2) o00 o01).bind fun r=>
    if r=true then
     Option.map Sum.inr (
      some v8)
    else
     some (.inl (IntKind.i64.wrap (v8+1)))
   else none
  else
   Option.map Sum.inr (
    some (-1))
def jK(s:ga)(o00:fI)(o01:ga):Option Int:=
 gI (ja s o00 o01) 0
instance yZ{s:ga}{o00:fI}{o01:ga}:iH (jK s o00 o01) fun rr=>hY Tryz.prog 101 [.d (gN 3 gB s),.fn 71 [] [.ptr 0 0]] [(0,.obj 29 [.d (gN 1 iD o00),.d (gN 3 gB o01)])] 1 fun xx ss=>xx=.d (iD rr)/\ss=[(0,.obj 29 [.d (gN 1 iD o00),.d (gN 3 gB o01)])]:=⟨@fun rr h=>by
 delta jK at h;refine VZ.nN (gv ?_);delta Tu;refine iL ?_;refine jV h [4,5,8,9,10,11,12,13,14,15,16,17,18] (fun pp=>[(8,.d (iD pp))]) (fun pp=>[(0,.obj 29 [.d (gN 1 iD o00),.d (gN 3 gB o01)])]) ?_;rintro v8 t1 h hb1;unfold ja at h;try dsimp only at h
 refine gv (iL ?_);refine iT h fun hc h=>?_
 refine kz h fun hp h=>?_
 refine uD (by kernel_rfl) ?_;refine mA [(0,0)] [] h fun r hr h=>?_
 exact od⟩
def Xt:gR:=
 (.seq (.gz (sq 4 [mb false])) (.seq (.gz (sq 5 [mv 0,mv 1,cf 101 [5,6],bi .geq 7 0]++sq 4 [mv 8])) .ret))
theorem ZA:lE Tryz.prog 70 Xt 9 [.tmp 4]:=mf Tryz.func70 Tryz.ntmps70
def jy(s:ga)(o00:fI)(o01:ga):Option Bool:=
 (jK s o00 o01).bind fun r=>
 some (decide (0<=r))
instance yf{s:ga}{o00:fI}{o01:ga}:iH (jy s o00 o01) fun rr=>hY Tryz.prog 70 [.d (gN 3 gB s),.fn 71 [] [.ptr 0 0]] [(0,.obj 29 [.d (gN 1 iD o00),.d (gN 3 gB o01)])] 1 fun xx ss=>xx=.d (bD rr)/\ss=[(0,.obj 29 [.d (gN 1 iD o00),.d (gN 3 gB o01)])]:=⟨@fun rr h=>by
 delta jy at h;refine ZA.nN (gv ?_);delta Xt;refine iL ?_;refine mA [(0,0)] [] h fun r hr h=>?_
 exact od⟩
def WT:gR:=
 (.seq (.gz (sq 1 [bo 1 29 0,mb false])) (.seq (.seq (.gz (sq 3 [fa 0 1,la 1 3,cf 69 [4],nt 5,mv 6]++sg 7 false 8 [fa 1 1,ld 8,ln 9,bi .gtr 10 12]++sq 12 [po 7 11])) (.cond (t0 12) (.seq (.gz (sq 2 [mb false])) .ret) .skip)) (.seq (.gz (sq 13 [fa 1 1,ld 13,.DS 71 [] [(t0 1)],cf 70 [14,15],nt 16]++sq 2 [mv 17])) .ret)))
theorem Y2:lE Tryz.prog 28 WT 18 [.tmp 2]:=mf Tryz.func28 Tryz.ntmps28
def oB(cs:gm):Option Bool:=
 (qx cs.1).bind fun r=>
 if r=true then
  if(decide (12<(cs.2.length:Int)))=true then
   some false
  else
   (jy cs.2 cs.1 cs.2).bind fun r_1=>
   some (!r_1)
 else
  some false
instance LZ{cs:gm}:iH (oB cs) fun rr=>lz Tryz.prog 28 [gP cs] (bD rr):=⟨@fun rr h=>by
 delta oB at h;refine Y2.jO (gv ?_);delta WT;refine iL ?_;refine rC h fun r hr h=>?_
 refine iT h fun hc h=>?_
 refine iF h fun hc h=>?_
 refine mA [(0,1)] [] h fun r_1 hr_1 h=>?_
 exact od⟩
def WK:gR:=
 (.seq (.gz (sq 3 [bo 3 29 0]++sq 6 [mb false])) (.seq (.gz (sq 7 [la 2 3,cf 28 [7],mv 8]++sg 9 true 10 [fa 0 3,la 1 10,mv 1,cf 45 [11,12]]++sq 14 [pa 9 13,mv 14]++sg 15 true 16 [mv 2,bi .geq 16 0]++sq 18 [pa 15 17,mv 18]++sg 19 true 20 [mv 2,bi .leq 20 2]++sq 22 [pa 19 21]++sq 6 [mv 22])) .ret))
theorem YU:lE Tryz.prog 18 WK 23 [.tmp 6]:=mf Tryz.func18 Tryz.ntmps18
def mO(cs:gm)(t:fI)(depth:Int):Option Bool:=
 (oB cs).bind fun r=>
 if r=true then
  (mg cs.1 t).bind fun r_1=>
  if r_1=true then
   if(decide (0<=depth))=true then
    some (decide (depth<=2))
   else
    some false
  else
   some false
 else
  some false
instance F7{cs:gm}{t:fI}{depth:Int}:iH (mO cs t depth) fun rr=>lz Tryz.prog 18 [gP cs,(gN 1 iD) t,iD depth] (bD rr):=⟨@fun rr h=>by
 delta mO at h;refine YU.jO (gv ?_);delta WK;refine iL ?_;exact od⟩
def UR:gR:=
 (.seq (.gz (sq 3 [bo 3 29 0]++sq 6 [mi 0,mi 0,.mv (.const (.slice none 0 0))])) (.seq (.gz (sq 9 [mi (-1),mi 0])) (.seq (.gz (sq 11 [.mv (.const (.slice none 0 0))])) (.seq (.gz (sq 18 [mv 1,ln 18]++sq 12 [mv 19])) (.seq (.seq (.gz (sq 20 [mv 1,ln 20,bi .sub 21 1]++sq 13 [mv 22])) (.block 0 (.loop (.seq (.seq (.gz (sq 23 [mv 13,bi .geq 23 0])) (.cond (t0 24) .skip (.exit 0))) (.seq (.block 1 (.seq (.seq (.gz (sq 27 [mv 1,mv 13,ix 1 27 28,ld 29,bi .lss 30 0,mv 31]++sg 32 false 33 [fa 0 3,la 1 33,mv 1,mv 13,cf 88 [34,35,36],mv 12,bn .gtr 37 38]++sq 40 [po 32 39])) (.cond (t0 40) (.exit 1) .skip)) (.seq (.gz (sq 41 [fa 1 3,ld 41,ln 42,mi 0])) (.block 2 (.loop (.seq (.gz (sq 45 [bn .lss 44 43])) (.seq (.cond (t0 45) .skip (.exit 2)) (.seq (.block 3 (.seq (.gz (sq 46 [mv 44,ix 3 42 44,la 3 47]++sq 15 [.alloc 15 55 [.sl 0 (some true) [],.sl 0 (some true) [],.sl 0 (some true) []]]++sq 14 [mv 46]++s0 (sr 3 15 48))) (.seq (.gz (sq 50 [la 2 3,mv 1,mv 13,la 3 15,mv 2,cf 19 [50,51,52,53,54]]++sq 49 [mv 55]++sq 56 [ex 49 0,ex 49 1]++sq 16 [mv 56,mv 57])) (.seq (.gz (sq 58 [mv 17])) (.cond (t0 58) (.seq (.gz (sq 59 [mv 13,mv 14,mv 16]++sq 9 [mv 59,mv 60,mv 61])) (.seq (.gz (sq 62 [mv 13]++sq 12 [mv 62])) (.exit 2))) .skip))))) (.gz (sq 63 [bi .add 44 1]++sq 44 [mv 63])))))))))) (.gz (sq 25 [mv 13,bi .sub 25 1]++sq 13 [mv 26]))))))) (.seq (.gz (sq 64 [mv 9,mv 10,mv 11]++sq 6 [mv 64,mv 65,mv 66])) .ret))))))
theorem Wp:lE Tryz.prog 63 UR 67 [.tmp 6,.tmp 7,.tmp 8]:=mf Tryz.func63 Tryz.ntmps63
def jX(rec:gm->fI->Int->fV->Int->Option fN)(cs:gm)(t:fI)(depth:Int)(best:Int)(rule:Int)(to:fI)(lowest:Int)(iz:Int):Int->Option (Int⊕(f_⊕fK))
 |v44=>
  if(decide (v44<(cs.2.length:Int)))=true then
   if 0<=v44/\v44<(cs.2.length:Int)then
    (rec cs t iz ((cs.2.getD v44.toNat default).1,(cs.2.getD v44.toNat default).2.1,(cs.2.getD v44.toNat default).2.2) depth).bind fun r_1=>
    if r_1.2=true then
     Option.map Sum.inr (
      some (.inl (iz,v44,r_1.1,iz,(IntKind.i64.wrap (iz-1)))))
    else
     some (.inl (IntKind.i64.wrap (v44+1)))
   else none
  else
   Option.map Sum.inr (
    some (.inl (best,rule,to,lowest,(IntKind.i64.wrap (iz-1)))))
def jd(rec:gm->fI->Int->fV->Int->Option fN)(cs:gm)(t:fI)(depth:Int):f_->Option (f_⊕fK)
 |(best,rule,to,lowest,iz)=>
  if(decide (0<=iz))=true then
   if 0<=iz/\iz<(t.length:Int)then
    if(decide ((t.getD iz.toNat default)<0))=true then
     some (.inl (best,rule,to,lowest,(IntKind.i64.wrap (iz-1))))
    else
     (nH cs.1 t iz).bind fun r=>
     if(decide (lowest<r))=true then
      some (.inl (best,rule,to,lowest,(IntKind.i64.wrap (iz-1))))
     else
      gI (jX rec cs t depth best rule to lowest iz) 0
   else none
  else
   Option.map Sum.inr (
    some (best,rule,to))
def jP(rec:gm->fI->Int->fV->Int->Option fN)(cs:gm)(t:fI)(depth:Int):Option fK:=
 gI (jd rec cs t depth) ((-1),0,[],(t.length:Int),(IntKind.i64.wrap ((t.length:Int)-1)))
instance IT{rec:gm->fI->Int->fV->Int->Option fN}[ih:∀{cs:gm}{t:fI}{iz:Int}{r:fV}{depth:Int},iH (rec cs t iz r depth) fun rr=>ki Tryz.prog 19 [gP cs,(gN 1 iD) t,iD iz,gB r,iD depth] [(gN 1 iD) rr.1,bD rr.2]]{cs:gm}{t:fI}{depth:Int}:iH (jP rec cs t depth) fun rr=>ki Tryz.prog 63 [gP cs,(gN 1 iD) t,iD depth] [iD rr.1,iD rr.2.1,(gN 1 iD) rr.2.2]:=⟨@fun rr h=>by
 delta jP at h;refine Wp.mK (gv ?_);delta UR;refine iL ?_;refine jV h [9,10,11,12,13,14,15,16,17,23,24,25,26,27,28,29,30,31,32,33,34,35,36,37,38,39,40,41,42,43,44,45,46,47,48,49,50,51,52,53,54,55,56,57,58,59,60,61,62,63] (fun pp=>[(9,.d (iD pp.1)),(10,.d (iD pp.2.1)),(11,.d (gN 1 iD pp.2.2.1)),(12,.d (iD pp.2.2.2.1)),(13,.d (iD pp.2.2.2.2))]) (fun pp=>[(3,.obj 29 [.d (gN 1 iD cs.1),.d (gN 3 gB cs.2)])]) ?_;rintro⟨best,rule,to,lowest,iz⟩ t1 h hb1;unfold jd at h;try dsimp only at h
 refine gv (iL ?_);refine iT h fun hc h=>?_
 refine kz h fun hp h=>?_
 refine iF h fun hc h=>?_
 refine rC h fun r hr h=>?_
 refine iF h fun hc h=>?_
 refine jV h [9,10,11,12,14,15,16,17,44,45,46,47,48,49,50,51,52,53,54,55,56,57,58,59,60,61,62,63] (fun pp=>[(9,.d (iD best)),(10,.d (iD rule)),(11,.d (gN 1 iD to)),(12,.d (iD lowest)),(44,.d (iD pp))]) (fun pp=>[(3,.obj 29 [.d (gN 1 iD cs.1),.d (gN 3 gB cs.2)])]) ?_;rintro v44 t2 h hb2;unfold jX at h;try dsimp only at h
 refine gv (iL ?_);refine iT h fun hc h=>?_
 refine kz h fun hp h=>?_
 refine G4 h fun r_1 hr_1 h=>?_
 refine it h (fun hc h=>?_) fun hc h=>?_
 ·replace h:=g_ h hb2;cases h;refine⟨_,rfl,?_⟩;refine(iB.drop 15 gu).trans ?_;exact wk
 cases h;refine⟨_,rfl,?_⟩;refine(iB.drop 15 gu).trans ?_;exact wk⟩
def XO:gR:=
 (.seq (.gz (sq 2 [mb false])) (.seq (.seq (.gz (sq 3 [mv 0,.rI (t0 3),ld 4,bi .eql 5 0])) (.cond (t0 6) (.seq (.gz (sq 2 [mb false])) .ret) .skip)) (.seq (.gz (sq 7 [mv 0,.rI (t0 7),ld 8,bi .sub 9 1,.rI (t0 7)]++s0 (sr 1 11 10))) (.seq (.gz (sq 2 [mb true])) .ret))))
theorem ZR:lE Tryz.prog 91 XO 12 [.tmp 2]:=mf Tryz.func91 Tryz.ntmps91
def ud(fuel:Int):Option (Bool×Int):=
 if(fuel==0)=true then
  some (false,fuel)
 else
  some (true,(IntKind.i64.wrap (fuel-1)))
instance Rp{fuel:Int}:iH (ud fuel) fun rr=>hY Tryz.prog 91 [.ptr 0 0] [(0,.obj 3 [.d (iD fuel)])] 1 fun xx ss=>xx=.d (bD rr.1)/\ss=[(0,.obj 3 [.d (iD rr.2)])]:=⟨@fun rr h=>by
 delta ud at h;refine ZR.nN (gv ?_);delta XO;refine iL ?_;exact od⟩
def Xd:gR:=
 (.seq (.gz (sq 3 [bo 3 29 0]++sq 6 [.mv (.const (.slice none 0 0)),mb false])) (.seq (.gz (sq 8 [.alloc 8 3 [.lit (.int .i64 0)]]++s0 (.store 1 (t0 8) (i0 8)))) (.block 0 (.loop (.block 1 (.seq (.gz (sq 13 [la 2 3,mv 1,mv 2,cf 63 [13,14,15]]++sq 12 [mv 16]++sq 17 [ex 12 0,ex 12 1,ex 12 2]++sq 9 [mv 17,mv 18,mv 19])) (.seq (.seq (.gz (sq 20 [mv 9,bi .lss 20 0])) (.cond (t0 21) (.seq (.gz (sq 22 [mv 1]++sq 6 [mv 22,mb true])) .ret) .skip)) (.seq (.seq (.gz (sq 23 [cf 91 [8],nt 23])) (.cond (t0 24) (.seq (.gz (sq 6 [.mv (.const (.slice none 0 0)),mb false])) .ret) .skip)) (.gz (sq 25 [mv 11]++sq 1 [mv 25]))))))))))
theorem Zl:lE Tryz.prog 50 Xd 26 [.tmp 6,.tmp 7]:=mf Tryz.func50 Tryz.ntmps50
def jD(rec:gm->fI->Int->fV->Int->Option fN)(cs:gm)(depth:Int):fO->Option (fO⊕fN)
 |(t_1,fuel)=>
  (jP rec cs t_1 depth).bind fun r=>
  if(decide (r.1<0))=true then
   Option.map Sum.inr (
    some (t_1,true))
  else
   (ud fuel).bind fun r_1=>
   if r_1.1=true then
    some (.inl (r.2.2,r_1.2))
   else
    Option.map Sum.inr (
     some ([],false))
def i_(rec:gm->fI->Int->fV->Int->Option fN)(cs:gm)(t:fI)(depth:Int):Option fN:=
 gI (jD rec cs depth) (t,8)
instance GY{rec:gm->fI->Int->fV->Int->Option fN}[ih:∀{cs:gm}{t:fI}{iz:Int}{r:fV}{depth:Int},iH (rec cs t iz r depth) fun rr=>ki Tryz.prog 19 [gP cs,(gN 1 iD) t,iD iz,gB r,iD depth] [(gN 1 iD) rr.1,bD rr.2]]{cs:gm}{t:fI}{depth:Int}:iH (i_ rec cs t depth) fun rr=>ki Tryz.prog 50 [gP cs,(gN 1 iD) t,iD depth] [(gN 1 iD) rr.1,bD rr.2]:=⟨@fun rr h=>by
 delta i_ at h;refine Zl.mK (gv ?_);delta Xd;refine iL ?_;refine jV h [1,6,7,9,10,11,12,13,14,15,16,17,18,19,20,21,22,23,24,25] (fun pp=>[(1,.d (gN 1 iD pp.1))]) (fun pp=>[(3,.obj 29 [.d (gN 1 iD cs.1),.d (gN 3 gB cs.2)]),(8,.obj 3 [.d (iD pp.2)])]) ?_;rintro⟨t_1,fuel⟩ t1 h hb1;unfold jD at h;try dsimp only at h
 refine gv (iL ?_);refine G4 h fun r hr h=>?_
 refine iF h fun hc h=>?_
 refine mA [(0,8)] [] h fun r_1 hr_1 h=>?_
 exact od⟩
def nj(n:Int):Option fI:=if 0<=n/\n*8<=140737488355328 then some []else none
instance Em{n:Int}:iH (nj n) fun rr=>hY Tryz.prog 115 [.d (.sl 0 (some true) []),.d (iD n)] [] 0 fun xx ss=>xx=.own 1 0 (List.map iD rr)/\ss=[(0,.tok 2 1 rr.length)]:=⟨fun h=>by
 obtain⟨hp,h⟩:=uV h;cases h;exact OV (i0:=Tryz.t2) (z:=_) Tryz.RX (by kernel_rfl) rfl (by decide) (by decide) (by decide) (by decide) hp.1 hp.2⟩
def XP:gR:=
 (.seq (.gz (sq 2 [.mv (.const (.slice none 0 0))])) (.seq (.gz (sq 3 [mi 0])) (.seq (.seq (.gz (sq 9 [mv 0,ln 9,mi 0])) (.block 0 (.loop (.seq (.gz (sq 12 [bn .lss 11 10])) (.seq (.cond (t0 12) .skip (.exit 0)) (.seq (.block 1 (.seq (.gz (sq 13 [ix 1 9 11,ld 13]++sq 5 [mv 14])) (.seq (.gz (sq 15 [mv 3,mv 5,ln 16,bn .add 15 17]++sq 3 [mv 18])) (.seq (.gz (sq 19 [mv 3,bi .lss 19 0])) (.cond (t0 20) (.gz (sq 21 [.Gt 9 (.const (.string {data:=#[108,101,110,32,111,117,116,32,111,102,32,114,97,110,103,101]}))]++s0 (.Sv (t0 21)))) .skip))))) (.gz (sq 22 [bi .add 11 1]++sq 11 [mv 22])))))))) (.seq (.gz (sq 23 [mv 3,.ji 115 [(.const (.slice none 0 0)),(t0 23)]]++sq 6 [mv 24])) (.seq (.seq (.gz (sq 25 [mv 0,ln 25,mi 0])) (.block 2 (.loop (.seq (.gz (sq 28 [bn .lss 27 26])) (.seq (.cond (t0 28) .skip (.exit 2)) (.seq (.block 3 (.seq (.gz (sq 29 [ix 1 25 27,ld 29]++sq 8 [mv 30])) (.gz (sq 31 [mv 6,mv 8,ap 33 2 1 8 31 32]++sq 6 [mv 33])))) (.gz (sq 34 [bi .add 27 1]++sq 27 [mv 34])))))))) (.seq (.gz (sq 35 [mv 6]++sq 2 [mv 35])) .ret))))))
theorem ZS:lE Tryz.prog 92 XP 36 [.tmp 2]:=mf Tryz.func92 Tryz.ntmps92
def lS(slices:fM):fO->Option gj
 |(newslice,v27)=>
  if(decide (v27<(slices.length:Int)))=true then
   if 0<=v27/\v27<(slices.length:Int)then
    if(newslice.length+(slices.getD v27.toNat default).length)*8<=140737488355328 then
     some (.inl ((newslice++(slices.getD v27.toNat default)),(IntKind.i64.wrap (v27+1))))
    else none
   else none
  else
   Option.map Sum.inr (
    some newslice)
def lR(slices:fM):fT->Option (fT⊕fI)
 |(size,v11)=>
  if(decide (v11<(slices.length:Int)))=true then
   if 0<=v11/\v11<(slices.length:Int)then
    if(decide ((IntKind.i64.wrap (size+((slices.getD v11.toNat default).length:Int)))<0))=true then
     none
    else
     some (.inl ((IntKind.i64.wrap (size+((slices.getD v11.toNat default).length:Int))),(IntKind.i64.wrap (v11+1))))
   else none
  else
   Option.map Sum.inr (
    (nj size).bind fun r=>
    gI (lS slices) (r,0))
def iy(slices:fM):Option fI:=
 gI (lR slices) (0,0)
instance CV{slices:fM}:iH (iy slices) fun rr=>hY Tryz.prog 92 [.d (gN 1 (gN 1 iD) slices)] [] 0 fun xx ss=>xx=.own 1 24 (List.map iD rr)/\ss=[(24,.tok 2 1 rr.length)]:=⟨@fun rr h=>by
 delta iy at h;refine ZS.nN (gv ?_);delta XP;refine iL ?_;refine jV h [3,5,11,12,13,14,15,16,17,18,19,20,21,22] (fun pp=>[(3,.d (iD pp.1)),(11,.d (iD pp.2))]) (fun pp=>[]) ?_;rintro⟨size,v11⟩ t1 h hb1;unfold lR at h;try dsimp only at h
 refine gv (iL ?_);refine iF h fun hc h=>?_
 replace h:=g_ h hb1;refine mA [] [(0,24)] h fun r hr h=>?_
 refine jV h [6,8,27,28,29,30,31,32,33,34] (fun pp=>[(6,.own 1 24 (List.map iD pp.1)),(27,.d (iD pp.2))]) (fun pp=>[(24,.tok 2 1 pp.1.length)]) ?_;rintro⟨newslice,v27⟩ t1 h hb1;unfold lS at h;try dsimp only at h
 refine gv (iL ?_);exact od⟩
def Xe:gR:=
 (.seq (.gz (sq 4 [bo 4 26 0]++sq 8 [.mv (.const (.slice none 0 0)),mb false])) (.seq (.draw (sq 11 [mv 1,mv 2,.slc (t0 11) 1 none (some (t0 12)) none,mv 3,mv 1,la 1 4,mv 1,mv 2,cf 88 [16,17,18],.slc (t0 15) 1 (some (t0 19)) none none,.mH 21 24 1 [(t0 13),(t0 14),(t0 20)],cf 92 [21]]++sq 10 [mv 22]) [[],[],[0,1],[],[],[],[],[],[5,6,7],[4,8],[2,3,9],[10,8],[11,11,0,1,2,3,4,5,6,7,8,9,10,11]]) (.seq (.seq (.gz (sq 23 [mv 10,ln 23,bi .gtr 24 60])) (.cond (t0 25) (.seq (.gz (sq 8 [.mv (.const (.slice none 0 0)),mb false])) .ret) .skip)) (.seq (.gz (sq 26 [mv 10]++sq 8 [mv 26,mb true])) .ret))))
theorem Zm:lE Tryz.prog 51 Xe 27 [.tmp 8,.tmp 9]:=mf Tryz.func51 Tryz.ntmps51
def nX(sig:fI)(t:fI)(iz:Int)(u:fI):Option fN:=
 if 0<=iz/\iz<=(t.length:Int)then
  (nH sig t iz).bind fun r=>
  if 0<=r/\r<=(t.length:Int)then
   (iy [(t.take iz.toNat),u,(t.drop r.toNat)]).bind fun r_1=>
   if(decide (60<(r_1.length:Int)))=true then
    some ([],false)
   else
    some (r_1,true)
  else none
 else none
instance Uo{sig:fI}{t:fI}{iz:Int}{u:fI}:iH (nX sig t iz u) fun rr=>ki Tryz.prog 51 [iZ sig,(gN 1 iD) t,iD iz,(gN 1 iD) u] [(gN 1 iD) rr.1,bD rr.2]:=⟨@fun rr h=>by
 delta nX at h;refine Zm.mK (gv ?_);delta Xe;refine iL ?_;refine kz h fun hp h=>?_
 refine dC h fun r hr h=>?_
 refine kz h fun hp h=>?_
 refine wu [] [(24,22)] h fun r_1 hr_1 h=>?_
 exact od⟩
def WL:gR:=
 (.seq (.gz (sq 5 [bo 5 29 0]++sq 8 [bo 8 55 3]++sq 10 [.mv (.const (.slice none 0 0)),mb false])) (.seq (.draw (sq 21 [fa 0 5,la 1 21,fa 0 8,ld 23,fa 0 5,la 1 25,mv 1,mv 2,cf 47 [26,27,28],.build [.sl 0 (some true) [],.sl 0 (some true) [],.sl 0 (some true) [],.sl 0 (some true) [],.sl 0 (some true) [],.sl 0 (some true) [],.sl 0 (some true) [],.sl 0 (some true) [],.sl 0 (some true) [],.sl 0 (some true) [],.sl 0 (some true) [],.sl 0 (some true) [],.sl 0 (some true) [],.sl 0 (some true) [],.sl 0 (some true) [],.sl 0 (some true) [],.sl 0 (some true) [],.sl 0 (some true) [],.sl 0 (some true) [],.sl 0 (some true) [],.sl 0 (some true) [],.sl 0 (some true) [],.sl 0 (some true) [],.sl 0 (some true) []] [],cf 46 [22,24,29,30]]++sq 20 [mv 31]++sq 32 [ex 20 0,ex 20 1]++sq 12 [.alloc 12 85 [.sl 0 (some true) [],.sl 0 (some true) [],.sl 0 (some true) [],.sl 0 (some true) [],.sl 0 (some true) [],.sl 0 (some true) [],.sl 0 (some true) [],.sl 0 (some true) [],.sl 0 (some true) [],.sl 0 (some true) [],.sl 0 (some true) [],.sl 0 (some true) [],.sl 0 (some true) [],.sl 0 (some true) [],.sl 0 (some true) [],.sl 0 (some true) [],.sl 0 (some true) [],.sl 0 (some true) [],.sl 0 (some true) [],.sl 0 (some true) [],.sl 0 (some true) [],.sl 0 (some true) [],.sl 0 (some true) [],.sl 0 (some true) []]]++s0 (sr 24 12 32)++sq 13 [mv 33]) [[],[0],[],[2],[],[4],[],[],[5,6,7],[],[1,3,8,9,8],[10],[11],[11],[],[14,12,10,0,1,2,3,4,5,6,7,8,9,10,11,12,14],[13,15,0,1,2,3,4,5,6,7,8,9,10,11,12,13,14,15]]) (.seq (.seq (.gz (sq 34 [mv 13,nt 34,mv 35]++sg 36 false 37 [fa 2 8,ld 37,ln 38,bi .gtr 39 0,mv 40]++sg 41 true 42 [mv 4,bi .eql 42 0]++sg 36 false 44 [pa 41 43]++sq 45 [po 36 44])) (.cond (t0 45) (.seq (.gz (sq 10 [.mv (.const (.slice none 0 0)),mb false])) .ret) .skip)) (.seq (.seq (.gz (sq 46 [fa 2 8,ld 46,ln 47,mi 0])) (.block 0 (.loop (.seq (.gz (sq 50 [bn .lss 49 48])) (.seq (.cond (t0 50) .skip (.exit 0)) (.seq (.block 1 (.seq (.gz (sq 51 [ix 2 47 49,la 2 51]++sq 15 [.alloc 15 89 [.sl 0 (some true) [],.sl 0 (some true) []]]++s0 (sr 2 15 52))) (.seq (.draw (sq 54 [la 24 12,cf 49 [54],fa 0 15,ld 56,cf 48 [55,57]]++sq 53 [mv 58]++sq 59 [ex 53 0,ex 53 1]++sq 16 [mv 59,mv 60]) [[],[0],[],[2],[1,3,1],[4],[5],[5],[6,4,0,1,2,3,4,5,6],[7,8,0,1,2,3,4,5,6,7,8]]) (.seq (.seq (.gz (sq 61 [mv 17,nt 61])) (.cond (t0 62) (.seq (.gz (sq 10 [.mv (.const (.slice none 0 0)),mb false])) .ret) .skip)) (.seq (.gz (sq 64 [la 2 5,mv 16,mv 4,bi .sub 66 1,cf 50 [64,65,67]]++sq 63 [mv 68]++sq 69 [ex 63 0,ex 63 1]++sq 18 [mv 69]++sq 17 [mv 70])) (.seq (.seq (.gz (sq 71 [mv 17,nt 71])) (.cond (t0 72) (.seq (.gz (sq 10 [.mv (.const (.slice none 0 0)),mb false])) .ret) .skip)) (.seq (.gz (sq 74 [fa 0 5,la 1 74,fa 1 15,ld 76,mv 18,la 24 12,cf 46 [75,77,78,79]]++sq 73 [mv 80]++sq 81 [ex 73 0,ex 73 1]++s0 (sr 24 12 81)++sq 17 [mv 82])) (.seq (.gz (sq 83 [mv 17,nt 83])) (.cond (t0 84) (.seq (.gz (sq 10 [.mv (.const (.slice none 0 0)),mb false])) .ret) .skip))))))))) (.gz (sq 85 [bi .add 49 1]++sq 49 [mv 85])))))))) (.seq (.draw (sq 87 [la 24 12,cf 49 [87],fa 1 8,ld 89,cf 48 [88,90]]++sq 86 [mv 91]++sq 92 [ex 86 0,ex 86 1]++sq 19 [mv 92]++sq 13 [mv 93]) [[],[0],[],[2],[1,3,1],[4],[5],[5],[6,4,0,1,2,3,4,5,6],[7,8,0,1,2,3,4,5,6,7,8]]) (.seq (.seq (.gz (sq 94 [mv 13,nt 94])) (.cond (t0 95) (.seq (.gz (sq 10 [.mv (.const (.slice none 0 0)),mb false])) .ret) .skip)) (.seq (.gz (sq 96 [fa 0 5,la 1 96,mv 1,mv 2,mv 19,cf 51 [97,98,99,100],ex 101 0,ex 101 1]++sq 10 [mv 102,mv 103])) .ret)))))))
theorem YV:lE Tryz.prog 19 WL 104 [.tmp 10,.tmp 11]:=mf Tryz.func19 Tryz.ntmps19
def iY(rec:gm->fI->Int->fV->Int->Option fN)(cs:gm)(t:fI)(iz:Int)(r:fV)(depth:Int):(Int×fM)->Option ((Int×fM)⊕fN)
 |(v49,b)=>
  if(decide (v49<(r.2.2.length:Int)))=true then
   if 0<=v49/\v49<(r.2.2.length:Int)then
    if b.length=24 then
     (jw b).bind fun r_3=>
     (m_ r_3 ((r.2.2.getD v49.toNat default).1)).bind fun r_4=>
     if r_4.2=true then
      (i_ rec cs r_4.1 (IntKind.i64.wrap (depth-1))).bind fun r_5=>
      if r_5.2=true then
       if b.length=24 then
        (kB cs.1 ((r.2.2.getD v49.toNat default).2) r_5.1 b).bind fun r_6=>
        if r_6.1.length=24/\b.length=24 then
         if r_6.2=true then
          some (.inl ((IntKind.i64.wrap (v49+1)),r_6.1))
         else
          Option.map Sum.inr (
           some ([],false))
        else none
       else none
      else
       Option.map Sum.inr (
        some ([],false))
     else
      Option.map Sum.inr (
       some ([],false))
    else none
   else none
  else
   Option.map Sum.inr (
    if b.length=24 then
     (jw b).bind fun r_7=>
     (m_ r_7 r.2.1).bind fun r_8=>
     if r_8.2=true then
      (nX cs.1 t iz r_8.1).bind fun r_9=>
      some r_9
     else
      some ([],false)
    else none)
def ot(rec:gm->fI->Int->fV->Int->Option fN)(cs:gm)(t:fI)(iz:Int)(r:fV)(depth:Int):(Int×fM)->Option ((Int×fM)⊕fN)
 |(v49_1,b_1)=>
  if(decide (v49_1<(r.2.2.length:Int)))=true then
   if 0<=v49_1/\v49_1<(r.2.2.length:Int)then
    if b_1.length=24 then
     (jw b_1).bind fun r_10=>
     (m_ r_10 ((r.2.2.getD v49_1.toNat default).1)).bind fun r_11=>
     if r_11.2=true then
      (i_ rec cs r_11.1 (IntKind.i64.wrap (depth-1))).bind fun r_12=>
      if r_12.2=true then
       if b_1.length=24 then
        (kB cs.1 ((r.2.2.getD v49_1.toNat default).2) r_12.1 b_1).bind fun r_13=>
        if r_13.1.length=24/\b_1.length=24 then
         if r_13.2=true then
          some (.inl ((IntKind.i64.wrap (v49_1+1)),r_13.1))
         else
          Option.map Sum.inr (
           some ([],false))
        else none
       else none
      else
       Option.map Sum.inr (
        some ([],false))
     else
      Option.map Sum.inr (
       some ([],false))
    else none
   else none
  else
   Option.map Sum.inr (
    if b_1.length=24 then
     (jw b_1).bind fun r_14=>
     (m_ r_14 r.2.1).bind fun r_15=>
     if r_15.2=true then
      (nX cs.1 t iz r_15.1).bind fun r_16=>
      some r_16
     else
      some ([],false)
    else none)
def iO:Nat->gm->fI->Int->fV->Int->Option fN
 |0,_,_,_,_,_=>none
 |fu+1,cs,t,iz,r,depth=>
  (mP cs.1 t iz).bind fun r_1=>
  (kB cs.1 r.1 r_1 (List.replicate 24 [])).bind fun r_2=>
  if r_2.1.length=24 then
   if r_2.2=true then
    if(decide (0<(r.2.2.length:Int)))=true then
     if(depth==0)=true then
      some ([],false)
     else
      gI (iY (iO fu) cs t iz r depth) (0,r_2.1)
    else
     gI (ot (iO fu) cs t iz r depth) (0,r_2.1)
   else
    some ([],false)
  else none
def kA(cs:gm)(t:fI)(iz:Int)(r:fV)(depth:Int):Option fN:=AA fun fu=>iO fu cs t iz r depth
theorem vZ:∀{fu:Nat}{cs:gm}{t:fI}{iz:Int}{r:fV}{depth:Int}{rr:fN}(h:iO fu cs t iz r depth=some rr),ki Tryz.prog 19 [gP cs,(gN 1 iD) t,iD iz,gB r,iD depth] [(gN 1 iD) rr.1,bD rr.2]
 |0,_,_,_,_,_,_,h=>by cases h
 |fu+1,cs,t,iz,r,depth,rr,h=>by
  have ih:∀{cs:gm}{t:fI}{iz:Int}{r:fV}{depth:Int},iH (iO fu cs t iz r depth) fun rr=>ki Tryz.prog 19 [gP cs,(gN 1 iD) t,iD iz,gB r,iD depth] [(gN 1 iD) rr.1,bD rr.2]:=⟨fun h=>vZ h⟩
  unfold iO at h;refine YV.mK (gv ?_);delta WL;refine iL ?_;refine dC h fun r_1 hr_1 h=>?_
  refine QY h fun r_2 hr_2 h=>?_
  refine kz h fun hp h=>?_
  refine jo (by kernel_rfl) (iL ?_);refine iT h fun hc h=>?_
  refine it h (fun hc h=>?_) fun hc h=>?_
  ·refine iF h fun hc h=>?_
   refine jV h [10,11,15,16,17,18,49,50,51,52,53,54,55,56,57,58,59,60,61,62,63,64,65,66,67,68,69,70,71,72,73,74,75,76,77,78,79,80,81,82,83,84,85] (fun pp=>[(49,.d (iD pp.1))]) (fun pp=>[(5,.obj 29 [.d (gN 1 iD cs.1),.d (gN 3 gB cs.2)]),(8,.obj 55 [.d (gN 1 iD r.1),.d (gN 1 iD r.2.1),.d (gN 2 ir r.2.2)]),(12,.obj 85 (List.map (aD (Ad 1 iD)) pp.2))]) ?_;rintro⟨v49,b⟩ t1 h hb1;unfold iY at h;try dsimp only at h
   refine gv (iL ?_);refine iT h fun hc h=>?_
   refine kz h fun hp h=>?_
   refine kz h fun hp h=>?_
   refine dC h fun r_3 hr_3 h=>?_
   refine QY h fun r_4 hr_4 h=>?_
   refine jo (by kernel_rfl) (iL ?_);refine iT h fun hc h=>?_
   refine G4 h fun r_5 hr_5 h=>?_
   refine iT h fun hc h=>?_
   refine kz h fun hp h=>?_
   refine G4 h fun r_6 hr_6 h=>?_
   refine kz h fun hp h=>?_
   refine iT h fun hc h=>?_
   cases h;refine⟨_,rfl,?_⟩;refine(iB.drop 15 gu).trans ?_;exact wk
  refine jV h [10,11,15,16,17,18,49,50,51,52,53,54,55,56,57,58,59,60,61,62,63,64,65,66,67,68,69,70,71,72,73,74,75,76,77,78,79,80,81,82,83,84,85] (fun pp=>[(49,.d (iD pp.1))]) (fun pp=>[(5,.obj 29 [.d (gN 1 iD cs.1),.d (gN 3 gB cs.2)]),(8,.obj 55 [.d (gN 1 iD r.1),.d (gN 1 iD r.2.1),.d (gN 2 ir r.2.2)]),(12,.obj 85 (List.map (aD (Ad 1 iD)) pp.2))]) ?_;rintro⟨v49_1,b_1⟩ t1 h hb1;unfold ot at h;try dsimp only at h
  refine gv (iL ?_);refine iT h fun hc h=>?_
  refine kz h fun hp h=>?_
  refine kz h fun hp h=>?_
  refine dC h fun r_10 hr_10 h=>?_
  refine QY h fun r_11 hr_11 h=>?_
  refine jo (by kernel_rfl) (iL ?_);refine iT h fun hc h=>?_
  refine G4 h fun r_12 hr_12 h=>?_
  refine iT h fun hc h=>?_
  refine kz h fun hp h=>?_
  refine G4 h fun r_13 hr_13 h=>?_
  refine kz h fun hp h=>?_
  refine iT h fun hc h=>?_
  cases h;refine⟨_,rfl,?_⟩;refine(iB.drop 15 gu).trans ?_;exact wk
instance ER{cs:gm}{t:fI}{iz:Int}{r:fV}{depth:Int}:iH (kA cs t iz r depth) fun rr=>ki Tryz.prog 19 [gP cs,(gN 1 iD) t,iD iz,gB r,iD depth] [(gN 1 iD) rr.1,bD rr.2]:=⟨fun h=>vZ (rY h).choose_spec⟩
def mc6:gR:=
 (.seq (.gz (sq 5 [bo 5 29 0]++sq 10 [.mv (.const (.slice none 0 0)),mb false])) (.seq (.seq (.gz (sq 12 [la 2 5,mv 1,mv 4,cf 18 [12,13,14],nt 15,mv 16]++sg 17 false 18 [mv 2,bi .lss 18 0]++sq 20 [po 17 19,mv 20]++sg 21 false 22 [mv 2,mv 1,ln 23,bn .geq 22 24]++sq 26 [po 21 25,mv 26]++sg 27 false 28 [mv 3,bi .lss 28 0]++sq 30 [po 27 29,mv 30]++sg 31 false 32 [mv 3,fa 1 5,ld 33,ln 34,bn .geq 32 35]++sq 37 [po 31 36])) (.cond (t0 37) (.seq (.gz (sq 10 [.mv (.const (.slice none 0 0)),mb false])) .ret) .skip)) (.seq (.draw (sq 38 [la 2 5,mv 1,mv 2,fa 1 5,ld 41,mv 3,ix 3 42 43,la 3 44,mv 4,cf 19 [38,39,40,45,46],ex 47 0,ex 47 1]++sq 10 [mv 48,mv 49]) [[],[],[],[],[3],[],[4,5],[6],[],[0,1,2,7,8],[9],[9],[10,9,0,1,2,3,4,5,6,7,8,9,10,11],[11,12,0,1,2,3,4,5,6,7,8,9,10,11,12]]) .ret)))
theorem fn6:lE Tryz.prog 6 mc6 50 [.tmp 10,.tmp 11]:=mf Tryz.func6 Tryz.ntmps6
def qd(cs:gm)(t:fI)(iz:Int)(rule:Int)(depth:Int):Option fN:=
 (mO cs t depth).bind fun r=>
 if r=true then
  if(decide (iz<0))=true then
   some ([],false)
  else
   if(decide ((t.length:Int)<=iz))=true then
    some ([],false)
   else
    if(decide (rule<0))=true then
     some ([],false)
    else
     if(decide ((cs.2.length:Int)<=rule))=true then
      some ([],false)
     else
      if 0<=rule/\rule<(cs.2.length:Int)then
       (kA cs t iz ((cs.2.getD rule.toNat default).1,(cs.2.getD rule.toNat default).2.1,(cs.2.getD rule.toNat default).2.2) depth).bind fun r_1=>
       some r_1
      else none
 else
  some ([],false)
instance N2{cs:gm}{t:fI}{iz:Int}{rule:Int}{depth:Int}:iH (qd cs t iz rule depth) fun rr=>ki Tryz.prog 6 [gP cs,(gN 1 iD) t,iD iz,iD rule,iD depth] [(gN 1 iD) rr.1,bD rr.2]:=⟨@fun rr h=>by
 delta qd at h;refine fn6.mK (gv ?_);delta mc6;refine iL ?_;exact od⟩
def Tz:gR:=
 (.seq (.gz (sq 4 [.mv (.const (.slice none 0 0))])) (.seq (.gz (sq 5 [mi 0])) (.seq (.block 0 (.loop (.seq (.seq (.gz (sq 7 [mv 5,mv 0,ln 8,bn .lss 7 9,mv 10]++sg 11 true 12 [mv 0,mv 5,ix 1 12 13,ld 14,mv 1,bn .lss 15 16]++sq 18 [pa 11 17])) (.cond (t0 18) .skip (.exit 0))) (.block 1 (.gz (sq 19 [mv 5,bi .add 19 1]++sq 5 [mv 20])))))) (.seq (.seq (.gz (sq 21 [mv 5,mv 0,ln 22,bn .lss 21 23,mv 24]++sg 25 true 26 [mv 0,mv 5,ix 1 26 27,ld 28,mv 1,bn .eql 29 30]++sq 32 [pa 25 31])) (.cond (t0 32) (.seq (.gz (sq 33 [mv 0]++sq 4 [mv 33])) .ret) .skip)) (.seq (.gz (sq 34 [mv 0,mv 5,.slc (t0 34) 1 none (some (t0 35)) none,cf 27 [36],mv 1,.mH 39 2 1 [(t0 38)],ap 40 2 1 8 37 39]++sq 6 [mv 40])) (.seq (.gz (sq 41 [mv 6,mv 0,mv 5,.slc (t0 42) 1 (some (t0 43)) none none,ap 45 2 1 8 41 44]++sq 4 [mv 45])) .ret))))))
theorem V5:lE Tryz.prog 106 Tz 46 [.tmp 4]:=mf Tryz.func106 Tryz.ntmps106
def ny(list:fI)(n:Int):Int->Option (Int⊕fI)
 |k=>
  if(decide (k<(list.length:Int)))=true then
   if 0<=k/\k<(list.length:Int)then
    if(decide ((list.getD k.toNat default)<n))=true then
     some (.inl (IntKind.i64.wrap (k+1)))
    else
     Option.map Sum.inr (
      if(decide (k<(list.length:Int)))=true then
       if 0<=k/\k<(list.length:Int)then
        if((list.getD k.toNat default)==n)=true then
         some list
        else
         if 0<=k/\k<=(list.length:Int)then
          (iX (list.take k.toNat)).bind fun r=>
          if(r.length+1)*8<=140737488355328 then
           if 0<=k/\k<=(list.length:Int)then
            if((r++[n]).length+(list.drop k.toNat).length)*8<=140737488355328 then
             some ((r++[n])++(list.drop k.toNat))
            else none
           else none
          else none
         else none
       else none
      else
       if 0<=k/\k<=(list.length:Int)then
        (iX (list.take k.toNat)).bind fun r_1=>
        if(r_1.length+1)*8<=140737488355328 then
         if 0<=k/\k<=(list.length:Int)then
          if((r_1++[n]).length+(list.drop k.toNat).length)*8<=140737488355328 then
           some ((r_1++[n])++(list.drop k.toNat))
          else none
         else none
        else none
       else none)
   else none
  else
   Option.map Sum.inr (
    if(decide (k<(list.length:Int)))=true then
     if 0<=k/\k<(list.length:Int)then
      if((list.getD k.toNat default)==n)=true then
       some list
      else
       if 0<=k/\k<=(list.length:Int)then
        (iX (list.take k.toNat)).bind fun r_2=>
        if(r_2.length+1)*8<=140737488355328 then
         if 0<=k/\k<=(list.length:Int)then
          if((r_2++[n]).length+(list.drop k.toNat).length)*8<=140737488355328 then
           some ((r_2++[n])++(list.drop k.toNat))
          else none
         else none
        else none
       else none
     else none
    else
     if 0<=k/\k<=(list.length:Int)then
      (iX (list.take k.toNat)).bind fun r_3=>
      if(r_3.length+1)*8<=140737488355328 then
       if 0<=k/\k<=(list.length:Int)then
        if((r_3++[n]).length+(list.drop k.toNat).length)*8<=140737488355328 then
         some ((r_3++[n])++(list.drop k.toNat))
        else none
       else none
      else none
     else none)
def sH(list:fI)(n:Int):Option fI:=
 gI (ny list n) 0
instance QV{list:fI}{n:Int}:iH (sH list n) fun rr=>lz Tryz.prog 106 [(gN 1 iD) list,iD n] ((gN 1 iD) rr):=⟨@fun rr h=>by
 delta sH at h;refine V5.jO (gv ?_);delta Tz;refine iL ?_;refine jV h [5,7,8,9,10,11,12,13,14,15,16,17,18,19,20] (fun pp=>[(5,.d (iD pp))]) (fun pp=>[]) ?_;rintro k t1 h hb1;unfold ny at h;try dsimp only at h
 refine gv (iL ?_);refine it h (fun hc h=>?_) fun hc h=>?_
 ·refine kz h fun hp h=>?_
  refine iF h fun hc h=>?_
  replace h:=g_ h hb1;refine it h (fun hc h=>?_) fun hc h=>?_
  ·refine kz h fun hp h=>?_
   refine iF h fun hc h=>?_
   refine kz h fun hp h=>?_
   refine mA [] [(3,37)] h fun r hr h=>?_
   exact od
  refine kz h fun hp h=>?_
  refine mA [] [(3,37)] h fun r_1 hr_1 h=>?_
  exact od
 replace h:=g_ h hb1;refine it h (fun hc h=>?_) fun hc h=>?_
 ·refine kz h fun hp h=>?_
  refine iF h fun hc h=>?_
  refine kz h fun hp h=>?_
  refine mA [] [(3,37)] h fun r_2 hr_2 h=>?_
  exact od
 refine kz h fun hp h=>?_
 refine mA [] [(3,37)] h fun r_3 hr_3 h=>?_
 exact od⟩
def XA:gR:=
 (.seq (.gz (sq 4 [.mv (.const (.slice none 0 0))])) (.seq (.seq (.gz (sq 5 [mi 0])) (.block 0 (.loop (.seq (.seq (.gz (sq 6 [mv 5,mv 1,ln 7,bn .lss 6 8])) (.cond (t0 9) .skip (.exit 0))) (.seq (.block 1 (.seq (.gz (sq 12 [mv 1,mv 5,ix 1 12 13,ld 14,bi .lss 15 0])) (.cond (t0 16) (.gz (sq 17 [mv 0,mv 1,mv 5,ix 1 18 19,ld 20,.bin .sub (i0 (-1)) (t0 21),cf 106 [17,22]]++sq 0 [mv 23])) .skip))) (.gz (sq 10 [mv 5,bi .add 10 1]++sq 5 [mv 11]))))))) (.seq (.gz (sq 24 [mv 0]++sq 4 [mv 24])) .ret)))
theorem ZF:lE Tryz.prog 75 XA 25 [.tmp 4]:=mf Tryz.func75 Tryz.ntmps75
def pI(t:fI):fO->Option gj
 |(vars_1,i)=>
  if(decide (i<(t.length:Int)))=true then
   if 0<=i/\i<(t.length:Int)then
    if(decide ((t.getD i.toNat default)<0))=true then
     if 0<=i/\i<(t.length:Int)then
      (sH vars_1 (IntKind.i64.wrap ((-1)-(t.getD i.toNat default)))).bind fun r=>
      some (.inl (r,(IntKind.i64.wrap (i+1))))
     else none
    else
     some (.inl (vars_1,(IntKind.i64.wrap (i+1))))
   else none
  else
   Option.map Sum.inr (
    some vars_1)
def kF(vars:fI)(t:fI):Option fI:=
 gI (pI t) (vars,0)
instance Oi{vars:fI}{t:fI}:iH (kF vars t) fun rr=>lz Tryz.prog 75 [(gN 1 iD) vars,(gN 1 iD) t] ((gN 1 iD) rr):=⟨@fun rr h=>by
 delta kF at h;refine ZF.jO (gv ?_);delta XA;refine iL ?_;refine jV h [0,5,6,7,8,9,10,11,12,13,14,15,16,17,18,19,20,21,22,23] (fun pp=>[(0,.d (gN 1 iD pp.1)),(5,.d (iD pp.2))]) (fun pp=>[]) ?_;rintro⟨vars_1,i⟩ t1 h hb1;unfold pI at h;try dsimp only at h
 refine gv (iL ?_);exact od⟩
def Tx:gR:=
 (.seq (.gz (sq 2 [bo 2 26 0,bo 3 89 1,mb false])) (.seq (.gz (sq 5 [la 1 2,fa 0 3,ld 6,cf 42 [5,7],mv 8]++sg 9 true 10 [la 1 2,fa 1 3,ld 11,cf 42 [10,12]]++sq 14 [pa 9 13]++sq 4 [mv 14])) .ret))
theorem V2:lE Tryz.prog 104 Tx 15 [.tmp 4]:=mf Tryz.func104 Tryz.ntmps104
def tw(sig:fI)(e:fJ):Option Bool:=
 (jE sig e.1).bind fun r=>
 if r=true then
  (jE sig e.2).bind fun r_1=>
  some r_1
 else
  some false
instance Td{sig:fI}{e:fJ}:iH (tw sig e) fun rr=>lz Tryz.prog 104 [iZ sig,ir e] (bD rr):=⟨@fun rr h=>by
 delta tw at h;refine V2.jO (gv ?_);delta Tx;refine iL ?_;exact od⟩
def Ty:gR:=
 (.seq (.gz (sq 4 [mb false])) (.seq (.seq (.gz (sq 5 [mi 0])) (.block 0 (.loop (.seq (.seq (.gz (sq 6 [mv 5,mv 0,ln 7,bn .lss 6 8])) (.cond (t0 9) .skip (.exit 0))) (.seq (.block 1 (.seq (.gz (sq 12 [mv 0,mv 5,ix 1 12 13,ld 14,bi .lss 15 0,mv 16]++sg 17 true 18 [mv 1,mv 0,mv 5,ix 1 19 20,ld 21,.bin .sub (i0 (-1)) (t0 22),cf 76 [18,23],nt 24]++sq 26 [pa 17 25])) (.cond (t0 26) (.seq (.gz (sq 4 [mb false])) .ret) .skip))) (.gz (sq 10 [mv 5,bi .add 10 1]++sq 5 [mv 11]))))))) (.seq (.gz (sq 4 [mb true])) .ret)))
theorem V4:lE Tryz.prog 105 Ty 27 [.tmp 4]:=mf Tryz.func105 Tryz.ntmps105
def qa(t:fI)(vars:fI):Int->Option fZ
 |i=>
  if(decide (i<(t.length:Int)))=true then
   if 0<=i/\i<(t.length:Int)then
    if(decide ((t.getD i.toNat default)<0))=true then
     if 0<=i/\i<(t.length:Int)then
      (lV vars (IntKind.i64.wrap ((-1)-(t.getD i.toNat default)))).bind fun r=>
      if r=true then
       some (.inl (IntKind.i64.wrap (i+1)))
      else
       Option.map Sum.inr (
        some false)
     else none
    else
     some (.inl (IntKind.i64.wrap (i+1)))
   else none
  else
   Option.map Sum.inr (
    some true)
def nA(t:fI)(vars:fI):Option Bool:=
 gI (qa t vars) 0
instance L6{t:fI}{vars:fI}:iH (nA t vars) fun rr=>lz Tryz.prog 105 [(gN 1 iD) t,(gN 1 iD) vars] (bD rr):=⟨@fun rr h=>by
 delta nA at h;refine V4.jO (gv ?_);delta Ty;refine iL ?_;refine jV h [4,5,6,7,8,9,10,11,12,13,14,15,16,17,18,19,20,21,22,23,24,25,26] (fun pp=>[(5,.d (iD pp))]) (fun pp=>[]) ?_;rintro i t1 h hb1;unfold qa at h;try dsimp only at h
 refine gv (iL ?_);exact od⟩
def Xw:gR:=
 (.seq (.gz (sq 2 [bo 2 26 0,bo 3 55 1,mb false])) (.seq (.seq (.gz (sq 7 [la 1 2,fa 0 3,ld 8,cf 42 [7,9],nt 10,mv 11]++sg 12 false 13 [la 1 2,fa 1 3,ld 14,cf 42 [13,15],nt 16]++sq 18 [po 12 17,mv 18]++sg 19 false 20 [fa 0 3,ld 20,.CY 1 (t0 21) (i0 0),ld 22,bi .lss 23 0]++sq 25 [po 19 24,mv 25]++sg 26 false 27 [fa 2 3,ld 27,ln 28,bi .gtr 29 2]++sq 31 [po 26 30])) (.cond (t0 31) (.seq (.gz (sq 4 [mb false])) .ret) .skip)) (.seq (.gz (sq 32 [.mH 32 2 1 [],fa 0 3,ld 33,cf 75 [32,34]]++sq 5 [mv 35])) (.seq (.seq (.gz (sq 6 [mi 0])) (.block 0 (.loop (.seq (.seq (.gz (sq 36 [mv 6,fa 2 3,ld 37,ln 38,bn .lss 36 39])) (.cond (t0 40) .skip (.exit 0))) (.seq (.block 1 (.seq (.seq (.draw (sq 43 [la 1 2,fa 2 3,ld 44,mv 6,ix 2 45 46,la 2 47,cf 104 [43,48],nt 49,mv 50]++sg 51 false 52 [fa 2 3,ld 52,mv 6,ix 2 53 54,fa 0 55,ld 56,mv 5,cf 105 [57,58],nt 59]++sq 61 [po 51 60]) [[],[],[1],[],[2,3],[4],[0,5],[6],[7,6],[8],[9,8],[8],[10,11,8],[12,8],[13,8],[8],[14,15,8,8],[16,8],[8,17]]) (.cond (t0 61) (.seq (.gz (sq 4 [mb false])) .ret) .skip)) (.gz (sq 62 [mv 5,fa 2 3,ld 63,mv 6,ix 2 64 65,fa 1 66,ld 67,cf 75 [62,68]]++sq 5 [mv 69])))) (.gz (sq 41 [mv 6,bi .add 41 1]++sq 6 [mv 42]))))))) (.seq (.gz (sq 70 [fa 1 3,ld 70,mv 5,cf 105 [71,72]]++sq 4 [mv 73])) .ret)))))
theorem ZD:lE Tryz.prog 73 Xw 74 [.tmp 4]:=mf Tryz.func73 Tryz.ntmps73
def nS(sig:fI)(r:fV):fO->Option (fO⊕Bool)
 |(vars,i)=>
  if(decide (i<(r.2.2.length:Int)))=true then
   if 0<=i/\i<(r.2.2.length:Int)then
    (tw sig ((r.2.2.getD i.toNat default).1,(r.2.2.getD i.toNat default).2)).bind fun r_4=>
    if r_4=true then
     if 0<=i/\i<(r.2.2.length:Int)then
      (nA ((r.2.2.getD i.toNat default).1) vars).bind fun r_5=>
      if r_5=true then
       if 0<=i/\i<(r.2.2.length:Int)then
        (kF vars ((r.2.2.getD i.toNat default).2)).bind fun r_6=>
        some (.inl (r_6,(IntKind.i64.wrap (i+1))))
       else none
      else
       Option.map Sum.inr (
        some false)
     else none
    else
     Option.map Sum.inr (
      some false)
   else none
  else
   Option.map Sum.inr (
    (nA r.2.1 vars).bind fun r_7=>
    some r_7)
def rq(sig:fI)(r:fV):Option Bool:=
 (jE sig r.1).bind fun r_1=>
 if r_1=true then
  (jE sig r.2.1).bind fun r_2=>
  if r_2=true then
   if 0<=0/\0<(r.1.length:Int)then
    if(decide ((r.1.getD 0 default)<0))=true then
     some false
    else
     if(decide (2<(r.2.2.length:Int)))=true then
      some false
     else
      (kF [] r.1).bind fun r_3=>
      gI (nS sig r) (r_3,0)
   else none
  else
   some false
 else
  some false
instance N6{sig:fI}{r:fV}:iH (rq sig r) fun rr=>lz Tryz.prog 73 [iZ sig,gB r] (bD rr):=⟨@fun rr h=>by
 delta rq at h;refine ZD.jO (gv ?_);delta Xw;refine iL ?_;refine rC h fun r_1 hr_1 h=>?_
 refine iT h fun hc h=>?_
 refine rC h fun r_2 hr_2 h=>?_
 refine iT h fun hc h=>?_
 refine kz h fun hp h=>?_
 refine iF h fun hc h=>?_
 refine iF h fun hc h=>?_
 refine rC h fun r_3 hr_3 h=>?_
 refine jV h [4,5,6,36,37,38,39,40,41,42,43,44,45,46,47,48,49,50,51,52,53,54,55,56,57,58,59,60,61,62,63,64,65,66,67,68,69] (fun pp=>[(5,.d (gN 1 iD pp.1)),(6,.d (iD pp.2))]) (fun pp=>[(2,.obj 26 [.d (gN 1 iD sig)]),(3,.obj 55 [.d (gN 1 iD r.1),.d (gN 1 iD r.2.1),.d (gN 2 ir r.2.2)]),(32,.tok 2 1 0)]) ?_;rintro⟨vars,i⟩ t1 h hb1;unfold nS at h;try dsimp only at h
 refine gv (iL ?_);exact od⟩
def WU:gR:=
 (.seq (.gz (sq 1 [bo 1 29 0,mb false])) (.seq (.seq (.gz (sq 4 [fa 0 1,la 1 4,cf 32 [5],nt 6,mv 7]++sg 8 false 9 [fa 1 1,ld 9,ln 10,bi .gtr 11 12]++sq 13 [po 8 12])) (.cond (t0 13) (.seq (.gz (sq 2 [mb false])) .ret) .skip)) (.seq (.seq (.gz (sq 3 [mi 0])) (.block 0 (.loop (.seq (.seq (.gz (sq 14 [mv 3,fa 1 1,ld 15,ln 16,bn .lss 14 17])) (.cond (t0 18) .skip (.exit 0))) (.seq (.block 1 (.seq (.draw (sq 21 [fa 0 1,la 1 21,fa 1 1,ld 23,mv 3,ix 3 24 25,la 3 26,cf 73 [22,27],nt 28]) [[],[0],[],[2],[],[3,4],[5],[1,6],[7]]) (.cond (t0 29) (.seq (.gz (sq 2 [mb false])) .ret) .skip))) (.gz (sq 19 [mv 3,bi .add 19 1]++sq 3 [mv 20]))))))) (.seq (.gz (sq 2 [mb true])) .ret))))
theorem Y3:lE Tryz.prog 29 WU 30 [.tmp 2]:=mf Tryz.func29 Tryz.ntmps29
def p_(cs:gm):Int->Option fZ
 |i=>
  if(decide (i<(cs.2.length:Int)))=true then
   if 0<=i/\i<(cs.2.length:Int)then
    (rq cs.1 ((cs.2.getD i.toNat default).1,(cs.2.getD i.toNat default).2.1,(cs.2.getD i.toNat default).2.2)).bind fun r_1=>
    if r_1=true then
     some (.inl (IntKind.i64.wrap (i+1)))
    else
     Option.map Sum.inr (
      some false)
   else none
  else
   Option.map Sum.inr (
    some true)
def kW(cs:gm):Option Bool:=
 (pF cs.1).bind fun r=>
 if r=true then
  if(decide (12<(cs.2.length:Int)))=true then
   some false
  else
   gI (p_ cs) 0
 else
  some false
instance L2{cs:gm}:iH (kW cs) fun rr=>lz Tryz.prog 29 [gP cs] (bD rr):=⟨@fun rr h=>by
 delta kW at h;refine Y3.jO (gv ?_);delta WU;refine iL ?_;refine rC h fun r hr h=>?_
 refine iT h fun hc h=>?_
 refine iF h fun hc h=>?_
 refine jV h [2,3,14,15,16,17,18,19,20,21,22,23,24,25,26,27,28,29] (fun pp=>[(3,.d (iD pp))]) (fun pp=>[(1,.obj 29 [.d (gN 1 iD cs.1),.d (gN 3 gB cs.2)])]) ?_;rintro i t1 h hb1;unfold p_ at h;try dsimp only at h
 refine gv (iL ?_);exact od⟩
def WM:gR:=
 (.seq (.gz (sq 3 [bo 3 29 0]++sq 6 [mb false])) (.seq (.gz (sq 7 [la 2 3,cf 29 [7],mv 8]++sg 9 true 10 [fa 0 3,la 1 10,mv 1,cf 42 [11,12]]++sq 14 [pa 9 13,mv 14]++sg 15 true 16 [mv 2,.ji 22 [(t0 16),(i0 0),(i0 2)]]++sq 18 [pa 15 17]++sq 6 [mv 18])) .ret))
theorem YW:lE Tryz.prog 20 WM 19 [.tmp 6]:=mf Tryz.func20 Tryz.ntmps20
def qM(cs:gm)(t:fI)(depth:Int):Option Bool:=
 (kW cs).bind fun r=>
 if r=true then
  (jE cs.1 t).bind fun r_1=>
  if r_1=true then
   (kX depth 0 2).bind fun r_2=>
   some r_2
  else
   some false
 else
  some false
instance Ns{cs:gm}{t:fI}{depth:Int}:iH (qM cs t depth) fun rr=>lz Tryz.prog 20 [gP cs,(gN 1 iD) t,iD depth] (bD rr):=⟨@fun rr h=>by
 delta qM at h;refine YW.jO (gv ?_);delta WM;refine iL ?_;exact od⟩
def TH:gR:=
 (.seq (.gz (sq 3 [bo 3 26 0]++sq 6 [.mv (.const (.slice none 0 0))])) (.seq (.gz (sq 10 [.mH 10 2 1 []]++sq 7 [mv 10])) (.seq (.gz (sq 11 [mv 2,bi .add 11 1]++sq 8 [mv 12])) (.seq (.seq (.draw (sq 13 [la 1 3,mv 1,mv 2,ix 1 14 15,ld 16,cf 111 [13,17]]++sq 9 [mv 18]) [[],[],[],[1,2],[3],[0,4],[5,5,0,1,2,3,4,5]]) (.block 0 (.loop (.seq (.seq (.gz (sq 19 [mv 9,bi .gtr 19 0])) (.cond (t0 20) .skip (.exit 0))) (.seq (.block 1 (.seq (.gz (sq 23 [mv 7,mv 8,.mH 25 2 1 [(t0 24)],ap 26 2 1 8 23 25]++sq 7 [mv 26])) (.gz (sq 27 [la 1 3,mv 1,mv 8,cf 83 [27,28,29]]++sq 8 [mv 30])))) (.gz (sq 21 [mv 9,bi .sub 21 1]++sq 9 [mv 22]))))))) (.seq (.gz (sq 31 [mv 7]++sq 6 [mv 31])) .ret)))))
theorem Wc:lE Tryz.prog 118 TH 32 [.tmp 6]:=mf Tryz.func118 Tryz.ntmps118
def uO(sig:fI)(t:fI):fL->Option (fL⊕fI)
 |(out,p,k)=>
  if(decide (0<k))=true then
   if(out.length+1)*8<=140737488355328 then
    (lU sig t p).bind fun r_1=>
    some (.inl ((out++[p]),r_1,(IntKind.i64.wrap (k-1))))
   else none
  else
   Option.map Sum.inr (
    some out)
def qS(sig:fI)(t:fI)(iz:Int):Option fI:=
 if 0<=iz/\iz<(t.length:Int)then
  (qg sig (t.getD iz.toNat default)).bind fun r=>
  gI (uO sig t) ([],(IntKind.i64.wrap (iz+1)),r)
 else none
instance QO{sig:fI}{t:fI}{iz:Int}:iH (qS sig t iz) fun rr=>lz Tryz.prog 118 [iZ sig,(gN 1 iD) t,iD iz] ((gN 1 iD) rr):=⟨@fun rr h=>by
 delta qS at h;refine Wc.jO (gv ?_);delta TH;refine iL ?_;refine kz h fun hp h=>?_
 refine dC h fun r hr h=>?_
 refine jo (by kernel_rfl) (iL ?_);refine jV h [7,8,9,19,20,21,22,23,24,25,26,27,28,29,30] (fun pp=>[(7,.own 1 10 (List.map iD pp.1)),(8,.d (iD pp.2.1)),(9,.d (iD pp.2.2))]) (fun pp=>[(3,.obj 26 [.d (gN 1 iD sig)]),(10,.tok 2 1 pp.1.length)]) ?_;rintro⟨out,p,k⟩ t1 h hb1;unfold uO at h;try dsimp only at h
 refine gv (iL ?_);refine iT h fun hc h=>?_
 refine kz h fun hp h=>?_
 refine rC h fun r_1 hr_1 h=>?_
 cases h;refine⟨_,rfl,?_⟩;refine(iB.drop 25 gu).trans ?_;exact wk⟩
def XW:gR:=
 (.seq (.gz (sq 3 [bo 3 26 0]++sq 6 [.mv (.const (.slice none 0 0))])) (.seq (.seq (.gz (sq 7 [la 1 3,mv 1,cf 42 [7,8],nt 9,mv 10]++sg 11 false 12 [mv 1,mv 2,cf 21 [12,13],nt 14]++sq 16 [po 11 15])) (.cond (t0 16) (.seq (.gz (sq 17 [.mH 17 2 1 []]++sq 6 [mv 17])) .ret) .skip)) (.seq (.gz (sq 18 [la 1 3,mv 1,mv 2,cf 118 [18,19,20]]++sq 6 [mv 21])) .ret)))
theorem ZZ:lE Tryz.prog 99 XW 22 [.tmp 6]:=mf Tryz.func99 Tryz.ntmps99
def qQ(sig:fI)(t:fI)(iz:Int):Option fI:=
 (jE sig t).bind fun r=>
 if r=true then
  (mR t iz).bind fun r_1=>
  if r_1=true then
   (qS sig t iz).bind fun r_2=>
   some r_2
  else
   some []
 else
  some []
instance QJ{sig:fI}{t:fI}{iz:Int}:iH (qQ sig t iz) fun rr=>lz Tryz.prog 99 [iZ sig,(gN 1 iD) t,iD iz] ((gN 1 iD) rr):=⟨@fun rr h=>by
 delta qQ at h;refine ZZ.jO (gv ?_);delta XW;refine iL ?_;exact od⟩
def Tt:gR:=
 (.seq (.gz (sq 3 [bo 3 26 0]++sq 6 [.mv (.const (.slice none 0 0))])) (.seq (.seq (.gz (sq 7 [la 1 3,mv 1,cf 42 [7,8],nt 9,mv 10]++sg 11 false 12 [mv 1,mv 2,cf 21 [12,13],nt 14]++sq 16 [po 11 15])) (.cond (t0 16) (.seq (.gz (sq 17 [.mH 17 2 1 []]++sq 6 [mv 17])) .ret) .skip)) (.seq (.gz (sq 18 [la 1 3,mv 1,mv 2,cf 53 [18,19,20]]++sq 6 [mv 21])) .ret)))
theorem VY:lE Tryz.prog 100 Tt 22 [.tmp 6]:=mf Tryz.func100 Tryz.ntmps100
def rS(sig:fI)(t:fI)(iz:Int):Option fI:=
 (jE sig t).bind fun r=>
 if r=true then
  (mR t iz).bind fun r_1=>
  if r_1=true then
   (kR sig t iz).bind fun r_2=>
   some r_2
  else
   some []
 else
  some []
instance Ru{sig:fI}{t:fI}{iz:Int}:iH (rS sig t iz) fun rr=>lz Tryz.prog 100 [iZ sig,(gN 1 iD) t,iD iz] ((gN 1 iD) rr):=⟨@fun rr h=>by
 delta rS at h;refine VY.jO (gv ?_);delta Tt;refine iL ?_;exact od⟩
def wM:gR:=
 (.seq (.gz (sq 4 [bo 4 26 0]++sq 8 [.mv (.const (.slice none 0 0)),mb false])) (.seq (.seq (.gz (sq 17 [mv 2,ln 17,bi .eql 18 0,mv 19]++sg 20 false 21 [mv 3,ln 21,bi .eql 22 0]++sq 24 [po 20 23])) (.cond (t0 24) (.seq (.gz (sq 25 [mv 1]++sq 8 [mv 25,mb false])) .ret) .skip)) (.seq (.seq (.gz (sq 26 [mv 2,.CY 1 (t0 26) (i0 0),ld 27,bi .lss 28 0])) (.cond (t0 29) (.seq (.gz (sq 30 [mv 2,.CY 1 (t0 30) (i0 0),ld 31,.bin .sub (i0 (-1)) (t0 32)]++sq 10 [mv 33])) (.seq (.seq (.gz (sq 34 [mv 1,mv 10,ix 1 34 35,ld 36,ln 37,bi .gtr 38 0])) (.cond (t0 39) (.seq (.gz (sq 40 [mv 1,mv 1,mv 10,ix 1 41 42,ld 43,mv 3,cf 12 [44,45]]++sq 8 [mv 40,mv 46])) .ret) .skip)) (.seq (.gz (sq 47 [.yY 47 24 1 [],mv 1,ap 49 24 1 24 47 48]++sq 11 [mv 49])) (.seq (.gz (sq 50 [mv 11,mv 10,mv 3,ix 1 50 51]++s0 (sr 1 53 52))) (.seq (.gz (sq 54 [mv 11]++sq 8 [mv 54,mb true])) .ret))))) .skip)) (.seq (.seq (.draw (sq 55 [mv 2,.CY 1 (t0 55) (i0 0),ld 56,mv 3,.CY 1 (t0 58) (i0 0),ld 59,bn .neq 57 60]) [[],[0],[1],[],[3],[4],[2,5]]) (.cond (t0 61) (.seq (.gz (sq 62 [mv 1]++sq 8 [mv 62,mb false])) .ret) .skip)) (.seq (.gz (sq 63 [la 1 4,mv 2,.ji 99 [(t0 63),(t0 64),(i0 0)]]++sq 12 [mv 65])) (.seq (.gz (sq 66 [la 1 4,mv 3,.ji 99 [(t0 66),(t0 67),(i0 0)]]++sq 13 [mv 68])) (.seq (.seq (.gz (sq 14 [mi 0])) (.block 0 (.loop (.seq (.seq (.gz (sq 69 [mv 14,mv 12,ln 70,bn .lss 69 71])) (.cond (t0 72) .skip (.exit 0))) (.seq (.block 1 (.seq (.draw (sq 76 [la 1 4,mv 1,la 1 4,mv 2,mv 12,mv 14,ix 1 80 81,ld 82,cf 100 [78,79,83],la 1 4,mv 3,mv 13,mv 14,ix 1 87 88,ld 89,cf 100 [85,86,90],cf 67 [76,77,84,91]]++sq 75 [mv 92]++sq 93 [ex 75 0,ex 75 1]++sq 15 [mv 93,mv 94]) [[],[],[],[],[],[],[4,5],[6],[2,3,7],[],[],[],[],[11,12],[13],[9,10,14,8],[0,1,8,15,15],[16],[17],[17],[18,16,0,1,2,3,4,5,6,7,8,9,10,11,12,13,14,15,16,17,18],[19,20,0,1,2,3,4,5,6,7,8,9,10,11,12,13,14,15,16,17,18,19,20]]) (.seq (.seq (.gz (sq 95 [mv 16,nt 95])) (.cond (t0 96) (.seq (.gz (sq 97 [mv 1]++sq 8 [mv 97,mb false])) .ret) .skip)) (.gz (sq 98 [mv 15]++sq 1 [mv 98]))))) (.gz (sq 73 [mv 14,bi .add 73 1]++sq 14 [mv 74]))))))) (.seq (.gz (sq 99 [mv 1]++sq 8 [mv 99,mb true])) .ret))))))))
theorem Ax:lE Tryz.prog 67 wM 100 [.tmp 8,.tmp 9]:=mf Tryz.func67 Tryz.ntmps67
def s_(rec:fI->fM->fI->fI->Option gn)(sig:fI)(p:fI)(t:fI)(r_1:fI)(r_2:fI):(fM×Int)->Option ((fM×Int)⊕gn)
 |(given_1,i)=>
  if(decide (i<(r_1.length:Int)))=true then
   if 0<=i/\i<(r_1.length:Int)then
    (rS sig p (r_1.getD i.toNat default)).bind fun r_3=>
    if 0<=i/\i<(r_2.length:Int)then
     (rS sig t (r_2.getD i.toNat default)).bind fun r_4=>
     (rec sig given_1 r_3 r_4).bind fun r_5=>
     if r_5.2=true then
      some (.inl (r_5.1,(IntKind.i64.wrap (i+1))))
     else
      Option.map Sum.inr (
       some (given_1,false))
    else none
   else none
  else
   Option.map Sum.inr (
    some (given_1,true))
def ng:Nat->fI->fM->fI->fI->Option gn
 |0,_,_,_,_=>none
 |fu+1,sig,given,p,t=>
  if((p.length:Int)==0)=true then
   some (given,false)
  else
   if((t.length:Int)==0)=true then
    some (given,false)
   else
    if 0<=0/\0<(p.length:Int)then
     if(decide ((p.getD 0 default)<0))=true then
      if 0<=0/\0<(p.length:Int)then
       if 0<=(IntKind.i64.wrap ((-1)-(p.getD 0 default)))/\(IntKind.i64.wrap ((-1)-(p.getD 0 default)))<(given.length:Int)then
        if(decide (0<((given.getD (IntKind.i64.wrap ((-1)-(p.getD 0 default))).toNat default).length:Int)))=true then
         if 0<=(IntKind.i64.wrap ((-1)-(p.getD 0 default)))/\(IntKind.i64.wrap ((-1)-(p.getD 0 default)))<(given.length:Int)then
          (lM (given.getD (IntKind.i64.wrap ((-1)-(p.getD 0 default))).toNat default) t).bind fun r=>
          some (given,r)
         else none
        else
         if(0+given.length)*24<=140737488355328 then
          if 0<=(IntKind.i64.wrap ((-1)-(p.getD 0 default)))/\(IntKind.i64.wrap ((-1)-(p.getD 0 default)))<(given.length:Int)then
           some ((given.set (IntKind.i64.wrap ((-1)-(p.getD 0 default))).toNat t),true)
          else none
         else none
       else none
      else none
     else
      if 0<=0/\0<(p.length:Int)then
       if 0<=0/\0<(t.length:Int)then
        if((p.getD 0 default) != (t.getD 0 default))=true then
         some (given,false)
        else
         (qQ sig p 0).bind fun r_1=>
         (qQ sig t 0).bind fun r_2=>
         gI (s_ (ng fu) sig p t r_1 r_2) (given,0)
       else none
      else none
    else none
def je(sig:fI)(given:fM)(p:fI)(t:fI):Option gn:=AA fun fu=>ng fu sig given p t
theorem yR:∀{fu:Nat}{sig:fI}{given:fM}{p:fI}{t:fI}{rr:gn}(h:ng fu sig given p t=some rr),ki Tryz.prog 67 [iZ sig,(gN 1 (gN 1 iD)) given,(gN 1 iD) p,(gN 1 iD) t] [(gN 1 (gN 1 iD)) rr.1,bD rr.2]
 |0,_,_,_,_,_,h=>by cases h
 |fu+1,sig,given,p,t,rr,h=>by
  have ih:∀{sig:fI}{given:fM}{p:fI}{t:fI},iH (ng fu sig given p t) fun rr=>ki Tryz.prog 67 [iZ sig,(gN 1 (gN 1 iD)) given,(gN 1 iD) p,(gN 1 iD) t] [(gN 1 (gN 1 iD)) rr.1,bD rr.2]:=⟨fun h=>yR h⟩
  unfold ng at h;refine Ax.U3 (gv ?_);delta wM;refine iL ?_;refine it h (fun hc h=>?_) fun hc h=>?_
  ·cases h;exact⟨_,_,gx.refl,q_⟩
  refine it h (fun hc h=>?_) fun hc h=>?_
  ·cases h;exact⟨_,_,gx.refl,q_⟩
  refine kz h fun hp h=>?_
  refine it h (fun hc h=>?_) fun hc h=>?_
  ·refine kz h fun hp h=>?_
   refine kz h fun hp h=>?_
   refine it h (fun hc h=>?_) fun hc h=>?_
   ·refine kz h fun hp h=>?_
    refine rC h fun r hr h=>?_
    cases h;exact⟨_,_,gx.refl,q_⟩
   refine kz h fun hp h=>?_
   refine kz h fun hp h=>?_
   refine Cy ?_;cases h;exact⟨_,_,(gx.fz 47 (gN 1 iD) rfl (given.set (IntKind.i64.wrap ((-1)-(p.getD 0 default))).toNat t)),q_⟩
  refine kz h fun hp h=>?_
  refine kz h fun hp h=>?_
  refine jo (by kernel_rfl) (iL ?_);refine it h (fun hc h=>?_) fun hc h=>?_
  ·cases h;exact⟨_,_,gx.refl,q_⟩
  refine rC h fun r_1 hr_1 h=>?_
  refine rC h fun r_2 hr_2 h=>?_
  refine jV h [1,8,9,14,15,16,69,70,71,72,73,74,75,76,77,78,79,80,81,82,83,84,85,86,87,88,89,90,91,92,93,94,95,96,97,98] (fun pp=>[(1,.d (gN 1 (gN 1 iD) pp.1)),(14,.d (iD pp.2))]) (fun pp=>[(4,.obj 26 [.d (gN 1 iD sig)])]) ?_;rintro⟨given_1,i⟩ t1 h hb1;unfold s_ at h;try dsimp only at h
  refine gv (iL ?_);refine it h (fun hc h=>?_) fun hc h=>?_
  ·refine kz h fun hp h=>?_
   refine dC h fun r_3 hr_3 h=>?_
   refine kz h fun hp h=>?_
   refine dC h fun r_4 hr_4 h=>?_
   refine QY h fun r_5 hr_5 h=>?_
   refine jo (by kernel_rfl) (iL ?_);refine iF h fun hc h=>?_
   replace h:=g_ h hb1;cases h;exact⟨_,_,gx.refl,q_⟩
  replace h:=g_ h hb1;cases h;exact⟨_,_,gx.refl,q_⟩
instance IY{sig:fI}{given:fM}{p:fI}{t:fI}:iH (je sig given p t) fun rr=>ki Tryz.prog 67 [iZ sig,(gN 1 (gN 1 iD)) given,(gN 1 iD) p,(gN 1 iD) t] [(gN 1 (gN 1 iD)) rr.1,bD rr.2]:=⟨fun h=>yR (rY h).choose_spec⟩
def UT:gR:=
 (.seq (.gz (sq 3 [bo 3 29 0]++sq 6 [.mv (.const (.slice none 0 0))])) (.seq (.gz (sq 13 [.mH 13 2 1 []]++sq 7 [mv 13])) (.seq (.seq (.gz (sq 8 [mi 0])) (.block 0 (.loop (.seq (.seq (.gz (sq 14 [mv 8,mv 1,ln 15,bn .lss 14 16])) (.cond (t0 17) .skip (.exit 0))) (.seq (.block 1 (.seq (.gz (sq 9 [mi (-1)])) (.seq (.seq (.gz (sq 10 [mi 0])) (.block 2 (.loop (.seq (.seq (.gz (sq 20 [mv 10,fa 1 3,ld 21,ln 22,bn .lss 20 23,mv 24]++sg 25 true 26 [mv 9,bi .lss 26 0]++sq 28 [pa 25 27])) (.cond (t0 28) .skip (.exit 2))) (.seq (.block 3 (.seq (.gz (sq 32 [la 2 3,mv 1,mv 8,mv 10,mv 2,cf 23 [32,33,34,35,36]]++sq 31 [mv 37]++sq 38 [ex 31 0,ex 31 1]++sq 11 [mv 38,mv 39])) (.seq (.gz (sq 40 [mv 12])) (.cond (t0 40) (.gz (sq 41 [mv 10]++sq 9 [mv 41])) .skip)))) (.gz (sq 29 [mv 10,bi .add 29 1]++sq 10 [mv 30]))))))) (.gz (sq 42 [mv 7,mv 9,.mH 44 2 1 [(t0 43)],ap 45 2 1 8 42 44]++sq 7 [mv 45]))))) (.gz (sq 18 [mv 8,bi .add 18 1]++sq 8 [mv 19]))))))) (.seq (.gz (sq 46 [mv 7]++sq 6 [mv 46])) .ret))))
theorem Wr:lE Tryz.prog 84 UT 47 [.tmp 6]:=mf Tryz.func84 Tryz.ntmps84
def jZ(rec:gm->fI->Int->Int->Int->Option fN)(cs:gm)(t:fI)(depth:Int)(out:fI)(iz:Int):fT->Option (fT⊕gj)
 |(k,rule)=>
  if(decide (rule<(cs.2.length:Int)))=true then
   if(decide (k<0))=true then
    (rec cs t iz rule depth).bind fun r=>
    if r.2=true then
     some (.inl (rule,(IntKind.i64.wrap (rule+1))))
    else
     some (.inl (k,(IntKind.i64.wrap (rule+1))))
   else
    Option.map Sum.inr (
     if(out.length+1)*8<=140737488355328 then
      some (.inl ((out++[k]),(IntKind.i64.wrap (iz+1))))
     else none)
  else
   Option.map Sum.inr (
    if(out.length+1)*8<=140737488355328 then
     some (.inl ((out++[k]),(IntKind.i64.wrap (iz+1))))
    else none)
def mD(rec:gm->fI->Int->Int->Int->Option fN)(cs:gm)(t:fI)(depth:Int):fO->Option gj
 |(out,iz)=>
  if(decide (iz<(t.length:Int)))=true then
   gI (jZ rec cs t depth out iz) ((-1),0)
  else
   Option.map Sum.inr (
    some out)
def kK(rec:gm->fI->Int->Int->Int->Option fN)(cs:gm)(t:fI)(depth:Int):Option fI:=
 gI (mD rec cs t depth) ([],0)
instance KU{rec:gm->fI->Int->Int->Int->Option fN}[ih:∀{cs:gm}{t:fI}{iz:Int}{rule:Int}{depth:Int},iH (rec cs t iz rule depth) fun rr=>ki Tryz.prog 23 [gP cs,(gN 1 iD) t,iD iz,iD rule,iD depth] [(gN 1 iD) rr.1,bD rr.2]]{cs:gm}{t:fI}{depth:Int}:iH (kK rec cs t depth) fun rr=>lz Tryz.prog 84 [gP cs,(gN 1 iD) t,iD depth] ((gN 1 iD) rr):=⟨@fun rr h=>by
 delta kK at h;refine Wr.jO (gv ?_);delta UT;refine iL ?_;refine jV h [7,8,9,10,11,12,14,15,16,17,18,19,20,21,22,23,24,25,26,27,28,29,30,31,32,33,34,35,36,37,38,39,40,41,42,43,44,45] (fun pp=>[(7,.own 1 13 (List.map iD pp.1)),(8,.d (iD pp.2))]) (fun pp=>[(3,.obj 29 [.d (gN 1 iD cs.1),.d (gN 3 gB cs.2)]),(13,.tok 2 1 pp.1.length)]) ?_;rintro⟨out,iz⟩ t1 h hb1;unfold mD at h;try dsimp only at h
 refine gv (iL ?_);refine iT h fun hc h=>?_
 refine jV h [9,10,11,12,20,21,22,23,24,25,26,27,28,29,30,31,32,33,34,35,36,37,38,39,40,41] (fun pp=>[(9,.d (iD pp.1)),(10,.d (iD pp.2))]) (fun pp=>[(3,.obj 29 [.d (gN 1 iD cs.1),.d (gN 3 gB cs.2)]),(13,.tok 2 1 out.length)]) ?_;rintro⟨k,rule⟩ t2 h hb2;unfold jZ at h;try dsimp only at h
 refine gv (iL ?_);refine it h (fun hc h=>?_) fun hc h=>?_
 ·refine iF h fun hc h=>?_
  replace h:=g_ h hb2;refine kz h fun hp h=>?_
  cases h;refine⟨_,rfl,?_⟩;refine(iB.drop 44 gu).trans ?_;exact wk
 replace h:=g_ h hb2;refine kz h fun hp h=>?_
 cases h;refine⟨_,rfl,?_⟩;refine(iB.drop 44 gu).trans ?_;exact wk⟩
def UP:gR:=
 (.seq (.gz (sq 3 [bo 3 29 0]++sq 6 [mi 0,mi 0,mb false])) (.seq (.gz (sq 13 [la 2 3,mv 1,mv 2,cf 84 [13,14,15]]++sq 9 [mv 16])) (.seq (.seq (.gz (sq 10 [mi 0])) (.block 0 (.loop (.seq (.seq (.gz (sq 17 [mv 10,mv 1,ln 18,bn .lss 17 19])) (.cond (t0 20) .skip (.exit 0))) (.seq (.block 1 (.seq (.seq (.gz (sq 23 [mv 9,mv 10,ix 1 23 24,ld 25,bi .lss 26 0])) (.cond (t0 27) (.exit 1) .skip)) (.seq (.gz (sq 11 [mb true])) (.seq (.seq (.gz (sq 28 [mv 10,bi .add 28 1]++sq 12 [mv 29])) (.block 2 (.loop (.seq (.seq (.gz (sq 30 [mv 12,fa 0 3,la 1 31,mv 1,mv 10,cf 83 [32,33,34],bn .lss 30 35])) (.cond (t0 36) .skip (.exit 2))) (.seq (.block 3 (.gz (sq 39 [mv 11,mv 39]++sg 40 true 41 [mv 9,mv 12,ix 1 41 42,ld 43,bi .lss 44 0]++sq 46 [pa 40 45]++sq 11 [mv 46]))) (.gz (sq 37 [mv 12,bi .add 37 1]++sq 12 [mv 38]))))))) (.seq (.gz (sq 47 [mv 11])) (.cond (t0 47) (.seq (.draw (sq 48 [mv 10,mv 9,mv 10,ix 1 49 50,ld 51]++sq 6 [mv 48,mv 52,mb true]) [[],[],[],[1,2],[3],[0,0],[4,5,0,1,2,3,4,5],[6,0,1,2,3,4,5,6]]) .ret) .skip)))))) (.gz (sq 21 [mv 10,bi .add 21 1]++sq 10 [mv 22]))))))) (.seq (.gz (sq 6 [mi 0,mi 0,mb false])) .ret))))
theorem Wn:lE Tryz.prog 43 UP 53 [.tmp 6,.tmp 7,.tmp 8]:=mf Tryz.func43 Tryz.ntmps43
def nW(cs:gm)(t:fI)(r:fI)(iz:Int):(Bool×Int)->Option ((Bool×Int)⊕(Int⊕gp))
 |(inmost,p)=>
  (lU cs.1 t iz).bind fun r_1=>
  if(decide (p<r_1))=true then
   if inmost=true then
    if 0<=p/\p<(r.length:Int)then
     some (.inl ((decide ((r.getD p.toNat default)<0)),(IntKind.i64.wrap (p+1))))
    else none
   else
    some (.inl (false,(IntKind.i64.wrap (p+1))))
  else
   Option.map Sum.inr (
    if inmost=true then
     if 0<=iz/\iz<(r.length:Int)then
      Option.map Sum.inr (
       some (iz,(r.getD iz.toNat default),true))
     else none
    else
     some (.inl (IntKind.i64.wrap (iz+1))))
def lq(cs:gm)(t:fI)(r:fI):Int->Option (Int⊕gp)
 |iz=>
  if(decide (iz<(t.length:Int)))=true then
   if 0<=iz/\iz<(r.length:Int)then
    if(decide ((r.getD iz.toNat default)<0))=true then
     some (.inl (IntKind.i64.wrap (iz+1)))
    else
     gI (nW cs t r iz) (true,(IntKind.i64.wrap (iz+1)))
   else none
  else
   Option.map Sum.inr (
    some (0,0,false))
def mm(rec:gm->fI->Int->Int->Int->Option fN)(cs:gm)(t:fI)(depth:Int):Option gp:=
 (kK rec cs t depth).bind fun r=>
 gI (lq cs t r) 0
instance Og{rec:gm->fI->Int->Int->Int->Option fN}[ih:∀{cs:gm}{t:fI}{iz:Int}{rule:Int}{depth:Int},iH (rec cs t iz rule depth) fun rr=>ki Tryz.prog 23 [gP cs,(gN 1 iD) t,iD iz,iD rule,iD depth] [(gN 1 iD) rr.1,bD rr.2]]{cs:gm}{t:fI}{depth:Int}:iH (mm rec cs t depth) fun rr=>ki Tryz.prog 43 [gP cs,(gN 1 iD) t,iD depth] [iD rr.1,iD rr.2.1,bD rr.2.2]:=⟨@fun rr h=>by
 delta mm at h;refine Wn.mK (gv ?_);delta UP;refine iL ?_;refine rC h fun r hr h=>?_
 refine jV h [6,7,8,10,11,12,17,18,19,20,21,22,23,24,25,26,27,28,29,30,31,32,33,34,35,36,37,38,39,40,41,42,43,44,45,46,47,48,49,50,51,52] (fun pp=>[(10,.d (iD pp))]) (fun pp=>[(3,.obj 29 [.d (gN 1 iD cs.1),.d (gN 3 gB cs.2)])]) ?_;rintro iz t1 h hb1;unfold lq at h;try dsimp only at h
 refine gv (iL ?_);refine iT h fun hc h=>?_
 refine kz h fun hp h=>?_
 refine iF h fun hc h=>?_
 refine jV h [11,12,30,31,32,33,34,35,36,37,38,39,40,41,42,43,44,45,46] (fun pp=>[(11,.d (bD pp.1)),(12,.d (iD pp.2))]) (fun pp=>[(3,.obj 29 [.d (gN 1 iD cs.1),.d (gN 3 gB cs.2)])]) ?_;rintro⟨inmost,p⟩ t2 h hb2;unfold nW at h;try dsimp only at h
 refine gv (iL ?_);exact od⟩
def XQ:gR:=
 (.seq (.gz (sq 3 [bo 3 29 0]++sq 6 [.mv (.const (.slice none 0 0)),mb false])) (.seq (.gz (sq 13 [mv 1,cf 27 [13]]++sq 8 [mv 14])) (.seq (.gz (sq 9 [mi 0])) (.block 0 (.loop (.seq (.block 1 (.seq (.gz (sq 18 [la 2 3,mv 8,mv 2,cf 43 [18,19,20]]++sq 17 [mv 21]++sq 22 [ex 17 0,ex 17 1,ex 17 2]++sq 10 [mv 22,mv 23,mv 24])) (.seq (.seq (.gz (sq 25 [mv 12,nt 25])) (.cond (t0 26) (.seq (.gz (sq 27 [mv 8]++sq 6 [mv 27,mb true])) .ret) .skip)) (.seq (.seq (.gz (sq 28 [mv 9,bi .eql 28 8])) (.cond (t0 29) (.seq (.gz (sq 30 [.mH 30 2 1 []]++sq 6 [mv 30,mb false])) .ret) .skip)) (.gz (sq 32 [la 2 3,mv 8,mv 10,mv 11,mv 2,cf 23 [32,33,34,35,36]]++sq 31 [mv 37]++sq 38 [ex 31 0,ex 31 1]++sq 8 [mv 38])))))) (.gz (sq 15 [mv 9,bi .add 15 1]++sq 9 [mv 16]))))))))
theorem ZT:lE Tryz.prog 93 XQ 40 [.tmp 6,.tmp 7]:=mf Tryz.func93 Tryz.ntmps93
def kY(rec:gm->fI->Int->Int->Int->Option fN)(cs:gm)(depth:Int):fO->Option (fO⊕fN)
 |(now,k)=>
  (mm rec cs now depth).bind fun r_1=>
  if r_1.2.2=true then
   if(k==8)=true then
    Option.map Sum.inr (
     some ([],false))
   else
    (rec cs now r_1.1 r_1.2.1 depth).bind fun r_2=>
    some (.inl (r_2.1,(IntKind.i64.wrap (k+1))))
  else
   Option.map Sum.inr (
    some (now,true))
def jU(rec:gm->fI->Int->Int->Int->Option fN)(cs:gm)(t:fI)(depth:Int):Option fN:=
 (iX t).bind fun r=>
 gI (kY rec cs depth) (r,0)
instance L5{rec:gm->fI->Int->Int->Int->Option fN}[ih:∀{cs:gm}{t:fI}{iz:Int}{rule:Int}{depth:Int},iH (rec cs t iz rule depth) fun rr=>ki Tryz.prog 23 [gP cs,(gN 1 iD) t,iD iz,iD rule,iD depth] [(gN 1 iD) rr.1,bD rr.2]]{cs:gm}{t:fI}{depth:Int}:iH (jU rec cs t depth) fun rr=>ki Tryz.prog 93 [gP cs,(gN 1 iD) t,iD depth] [(gN 1 iD) rr.1,bD rr.2]:=⟨@fun rr h=>by
 delta jU at h;refine ZT.mK (gv ?_);delta XQ;refine iL ?_;refine mA [] [(3,14)] h fun r hr h=>?_
 refine jV h [6,7,8,9,10,11,12,15,16,17,18,19,20,21,22,23,24,25,26,27,28,29,30,31,32,33,34,35,36,37,38,39] (fun pp=>[(8,.d (gN 1 iD pp.1)),(9,.d (iD pp.2))]) (fun pp=>[(3,.obj 29 [.d (gN 1 iD cs.1),.d (gN 3 gB cs.2)]),(14,.tok 2 1 r.length)]) ?_;rintro⟨now,k⟩ t1 h hb1;unfold kY at h;try dsimp only at h
 refine gv (iL ?_);exact od⟩
def wL:gR:=
 (.seq (.gz (sq 4 [bo 4 29 0]++sq 6 [bo 6 55 2]++sq 8 [.mv (.const (.slice none 0 0)),mb false])) (.seq (.draw (sq 18 [fa 0 4,la 1 18,.zz 20 24 1 24 [.sl 0 (some true) []] false (i0 24) (i0 24),fa 0 6,ld 21,mv 1,cf 67 [19,20,22,23]]++sq 17 [mv 24]++sq 25 [ex 17 0,ex 17 1]++sq 10 [mv 25,mv 26]) [[],[0],[],[],[3],[],[1,2,4,5],[6],[7],[7],[8,6,0,1,2,3,4,5,6,7,8],[9,10,0,1,2,3,4,5,6,7,8,9,10]]) (.seq (.seq (.gz (sq 12 [mi 0])) (.block 0 (.loop (.seq (.seq (.gz (sq 27 [mv 12,fa 2 6,ld 28,ln 29,bn .lss 27 30,mv 31]++sg 32 true 33 [mv 11]++sq 34 [pa 32 33])) (.cond (t0 34) .skip (.exit 0))) (.seq (.block 1 (.seq (.seq (.gz (sq 37 [mv 3,bi .eql 37 0])) (.cond (t0 38) (.seq (.gz (sq 39 [mv 10]++sq 8 [mv 39,mb false])) .ret) .skip)) (.seq (.gz (sq 41 [mv 10,.build [.sl 0 (some true) []] [(0,1,(t0 41))],fa 2 6,ld 43,mv 12,ix 2 44 45,fa 0 46,ld 47,cf 54 [42,48]]++sq 40 [mv 49]++sq 50 [ex 40 0,ex 40 1]++sq 13 [mv 50,mv 51])) (.seq (.seq (.gz (sq 52 [mv 14,nt 52])) (.cond (t0 53) (.seq (.gz (sq 54 [mv 10]++sq 8 [mv 54,mb false])) .ret) .skip)) (.seq (.gz (sq 56 [la 2 4,mv 13,mv 3,bi .sub 58 1,cf 93 [56,57,59]]++sq 55 [mv 60]++sq 61 [ex 55 0,ex 55 1]++sq 15 [mv 61,mv 62])) (.seq (.seq (.gz (sq 63 [mv 16,nt 63])) (.cond (t0 64) (.seq (.gz (sq 65 [mv 10]++sq 8 [mv 65,mb false])) .ret) .skip)) (.draw (sq 67 [fa 0 4,la 1 67,mv 10,fa 2 6,ld 70,mv 12,ix 2 71 72,fa 1 73,ld 74,mv 15,cf 67 [68,69,75,76]]++sq 66 [mv 77]++sq 78 [ex 66 0,ex 66 1]++sq 10 [mv 78,mv 79]) [[],[0],[],[],[3],[],[4,5],[6],[7],[],[1,2,8,9],[10],[11],[11],[12,10,0,1,2,3,4,5,6,7,8,9,10,11,12],[13,14,0,1,2,3,4,5,6,7,8,9,10,11,12,13,14]]))))))) (.gz (sq 35 [mv 12,bi .add 35 1]++sq 12 [mv 36]))))))) (.seq (.gz (sq 80 [mv 10,mv 11]++sq 8 [mv 80,mv 81])) .ret))))
theorem Aw:lE Tryz.prog 52 wL 82 [.tmp 8,.tmp 9]:=mf Tryz.func52 Tryz.ntmps52
def jI(rec:gm->fI->Int->Int->Int->Option fN)(cs:gm)(r:fV)(depth:Int):(fM×Bool×Int)->Option ((fM×Bool×Int)⊕gn)
 |(given,ok,i)=>
  if(decide (i<(r.2.2.length:Int)))=true then
   if ok=true then
    if(depth==0)=true then
     Option.map Sum.inr (
      some (given,false))
    else
     if 0<=i/\i<(r.2.2.length:Int)then
      (ku given ((r.2.2.getD i.toNat default).1)).bind fun r_2=>
      if r_2.2=true then
       (jU rec cs r_2.1 (IntKind.i64.wrap (depth-1))).bind fun r_3=>
       if r_3.2=true then
        if 0<=i/\i<(r.2.2.length:Int)then
         (je cs.1 given ((r.2.2.getD i.toNat default).2) r_3.1).bind fun r_4=>
         some (.inl (r_4.1,r_4.2,(IntKind.i64.wrap (i+1))))
        else none
       else
        Option.map Sum.inr (
         some (given,false))
      else
       Option.map Sum.inr (
        some (given,false))
     else none
   else
    Option.map Sum.inr (
     some (given,false))
  else
   Option.map Sum.inr (
    some (given,ok))
def mq(rec:gm->fI->Int->Int->Int->Option fN)(cs:gm)(u:fI)(r:fV)(depth:Int):Option gn:=
 (je cs.1 (List.replicate 24 []) r.1 u).bind fun r_1=>
 gI (jI rec cs r depth) (r_1.1,r_1.2,0)
instance Nr{rec:gm->fI->Int->Int->Int->Option fN}[ih:∀{cs:gm}{t:fI}{iz:Int}{rule:Int}{depth:Int},iH (rec cs t iz rule depth) fun rr=>ki Tryz.prog 23 [gP cs,(gN 1 iD) t,iD iz,iD rule,iD depth] [(gN 1 iD) rr.1,bD rr.2]]{cs:gm}{u:fI}{r:fV}{depth:Int}:iH (mq rec cs u r depth) fun rr=>ki Tryz.prog 52 [gP cs,(gN 1 iD) u,gB r,iD depth] [(gN 1 (gN 1 iD)) rr.1,bD rr.2]:=⟨@fun rr h=>by
 delta mq at h;refine Aw.mK (gv ?_);delta wL;refine iL ?_;refine Cy ?_;refine QY h fun r_1 hr_1 h=>?_
 refine jo (by kernel_rfl) (iL ?_);refine jV h [8,9,10,11,12,13,14,15,16,27,28,29,30,31,32,33,34,35,36,37,38,39,40,41,42,43,44,45,46,47,48,49,50,51,52,53,54,55,56,57,58,59,60,61,62,63,64,65,66,67,68,69,70,71,72,73,74,75,76,77,78,79] (fun pp=>[(10,.d (gN 1 (gN 1 iD) pp.1)),(11,.d (bD pp.2.1)),(12,.d (iD pp.2.2))]) (fun pp=>[(4,.obj 29 [.d (gN 1 iD cs.1),.d (gN 3 gB cs.2)]),(6,.obj 55 [.d (gN 1 iD r.1),.d (gN 1 iD r.2.1),.d (gN 2 ir r.2.2)])]) ?_;rintro⟨given,ok,i⟩ t1 h hb1;unfold jI at h;try dsimp only at h
 refine gv (iL ?_);exact od⟩
def WQ:gR:=
 (.seq (.gz (sq 5 [bo 5 29 0]++sq 10 [.mv (.const (.slice none 0 0)),mb false])) (.seq (.draw (sq 17 [la 2 5,fa 0 5,la 1 18,mv 1,mv 2,cf 53 [19,20,21],fa 1 5,ld 23,mv 3,ix 3 24 25,la 3 26,mv 4,cf 52 [17,22,27,28]]++sq 16 [mv 29]++sq 30 [ex 16 0,ex 16 1]++sq 12 [mv 30,mv 31]) [[],[],[1],[],[],[2,3,4],[],[6],[],[7,8],[9],[],[0,5,10,11,5],[12],[13],[13],[14,12,0,1,2,3,4,5,6,7,8,9,10,11,12,13,14],[15,16,0,1,2,3,4,5,6,7,8,9,10,11,12,13,14,15,16]]) (.seq (.seq (.gz (sq 32 [mv 13,nt 32])) (.cond (t0 33) (.seq (.gz (sq 34 [.mH 34 2 1 []]++sq 10 [mv 34,mb false])) .ret) .skip)) (.seq (.gz (sq 36 [mv 12,.build [.sl 0 (some true) []] [(0,1,(t0 36))],fa 1 5,ld 38,mv 3,ix 3 39 40,fa 1 41,ld 42,cf 54 [37,43]]++sq 35 [mv 44]++sq 45 [ex 35 0,ex 35 1]++sq 14 [mv 45,mv 46])) (.seq (.seq (.gz (sq 47 [mv 15,nt 47])) (.cond (t0 48) (.seq (.gz (sq 49 [.mH 49 2 1 []]++sq 10 [mv 49,mb false])) .ret) .skip)) (.seq (.gz (sq 50 [fa 0 5,la 1 50,mv 1,mv 2,mv 14,cf 55 [51,52,53,54],ex 55 0,ex 55 1]++sq 10 [mv 56,mv 57])) .ret))))))
theorem YZ:lE Tryz.prog 23 WQ 58 [.tmp 10,.tmp 11]:=mf Tryz.func23 Tryz.ntmps23
def jz:Nat->gm->fI->Int->Int->Int->Option fN
 |0,_,_,_,_,_=>none
 |fu+1,cs,t,iz,rule,depth=>
  (kR cs.1 t iz).bind fun r=>
  if 0<=rule/\rule<(cs.2.length:Int)then
   (mq (jz fu) cs r ((cs.2.getD rule.toNat default).1,(cs.2.getD rule.toNat default).2.1,(cs.2.getD rule.toNat default).2.2) depth).bind fun r_1=>
   if r_1.2=true then
    if 0<=rule/\rule<(cs.2.length:Int)then
     (ku r_1.1 ((cs.2.getD rule.toNat default).2.1)).bind fun r_2=>
     if r_2.2=true then
      (qD cs.1 t iz r_2.1).bind fun r_3=>
      some r_3
     else
      some ([],false)
    else none
   else
    some ([],false)
  else none
def kS(cs:gm)(t:fI)(iz:Int)(rule:Int)(depth:Int):Option fN:=AA fun fu=>jz fu cs t iz rule depth
theorem zi:∀{fu:Nat}{cs:gm}{t:fI}{iz:Int}{rule:Int}{depth:Int}{rr:fN}(h:jz fu cs t iz rule depth=some rr),ki Tryz.prog 23 [gP cs,(gN 1 iD) t,iD iz,iD rule,iD depth] [(gN 1 iD) rr.1,bD rr.2]
 |0,_,_,_,_,_,_,h=>by cases h
 |fu+1,cs,t,iz,rule,depth,rr,h=>by
  have ih:∀{cs:gm}{t:fI}{iz:Int}{rule:Int}{depth:Int},iH (jz fu cs t iz rule depth) fun rr=>ki Tryz.prog 23 [gP cs,(gN 1 iD) t,iD iz,iD rule,iD depth] [(gN 1 iD) rr.1,bD rr.2]:=⟨fun h=>zi h⟩
  unfold jz at h;refine YZ.mK (gv ?_);delta WQ;refine iL ?_;exact od
instance Jk{cs:gm}{t:fI}{iz:Int}{rule:Int}{depth:Int}:iH (kS cs t iz rule depth) fun rr=>ki Tryz.prog 23 [gP cs,(gN 1 iD) t,iD iz,iD rule,iD depth] [(gN 1 iD) rr.1,bD rr.2]:=⟨fun h=>zi (rY h).choose_spec⟩
def mc7:gR:=
 (.seq (.gz (sq 5 [bo 5 29 0]++sq 10 [.mv (.const (.slice none 0 0)),mb false])) (.seq (.seq (.gz (sq 14 [la 2 5,mv 1,mv 4,cf 20 [14,15,16],nt 17,mv 18]++sg 19 false 20 [mv 1,mv 2,cf 21 [20,21],nt 22]++sq 24 [po 19 23,mv 24]++sg 25 false 26 [mv 3,fa 1 5,ld 27,ln 28,bi .sub 29 1,.ji 22 [(t0 26),(i0 0),(t0 30)],nt 31]++sq 33 [po 25 32])) (.cond (t0 33) (.seq (.gz (sq 34 [.mH 34 2 1 []]++sq 10 [mv 34,mb false])) .ret) .skip)) (.seq (.gz (sq 36 [la 2 5,mv 1,mv 2,mv 3,mv 4,cf 23 [36,37,38,39,40]]++sq 35 [mv 41]++sq 42 [ex 35 0,ex 35 1]++sq 12 [mv 42,mv 43])) (.seq (.seq (.gz (sq 44 [mv 13,nt 44])) (.cond (t0 45) (.seq (.gz (sq 46 [.mH 46 2 1 []]++sq 10 [mv 46,mb false])) .ret) .skip)) (.seq (.gz (sq 47 [mv 12]++sq 10 [mv 47,mb true])) .ret)))))
theorem fn7:lE Tryz.prog 7 mc7 48 [.tmp 10,.tmp 11]:=mf Tryz.func7 Tryz.ntmps7
def qf(cs:gm)(t:fI)(iz:Int)(rule:Int)(depth:Int):Option fN:=
 (qM cs t depth).bind fun r=>
 if r=true then
  (mR t iz).bind fun r_1=>
  if r_1=true then
   (kX rule 0 (IntKind.i64.wrap ((cs.2.length:Int)-1))).bind fun r_2=>
   if r_2=true then
    (kS cs t iz rule depth).bind fun r_3=>
    if r_3.2=true then
     some (r_3.1,true)
    else
     some ([],false)
   else
    some ([],false)
  else
   some ([],false)
 else
  some ([],false)
instance N7{cs:gm}{t:fI}{iz:Int}{rule:Int}{depth:Int}:iH (qf cs t iz rule depth) fun rr=>ki Tryz.prog 7 [gP cs,(gN 1 iD) t,iD iz,iD rule,iD depth] [(gN 1 iD) rr.1,bD rr.2]:=⟨@fun rr h=>by
 delta qf at h;refine fn7.mK (gv ?_);delta mc7;refine iL ?_;exact od⟩
end Go.Proofs.YtelhemjlfkbkeaaGreat
