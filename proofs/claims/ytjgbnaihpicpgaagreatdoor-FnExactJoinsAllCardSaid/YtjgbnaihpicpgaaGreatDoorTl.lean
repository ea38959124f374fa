/- A part of the proof about FnExactJoinsAll (J3, L1, E1, E2). -/
import Derived.Test.YtjgbnaihpicpgaaGreatDoorTc
import Derived.Test.YtjgbnaihpicpgaaGreatDoorTi
import Derived.Test.YtjgbnaihpicpgaaGreatDoorTj
import Derived.Test.YtjgbnaihpicpgaaGreatDoorTk
set_option linter.all false
noncomputable section
namespace Go.Proofs.YtjgbnaihpicpgaaGreatDoor
open Go lY
attribute [local irreducible] rA vi uM lW lP ng jX Ak Bj yP Bi yF tw lK nO A7 iG kj
set_option maxHeartbeats 4000000
set_option maxRecDepth 4000
def WJ:gV:=
 (.seq (.gQ (sq 2 [mb false])) (.seq (.gQ (sq 3 [mv 0,bi .geq 3 0,mv 4]++sg 5 true 6 [mv 0,bi .leq 6 20]++sq 8 [pa 5 7]++sq 2 [mv 8])) .ret))
theorem YB:jV Tryz.prog 33 WJ 9 [.tmp 2]:=mf Tryz.func33 Tryz.ntmps33
def qE(steps:Int):Option Bool:=
 if(decide (0<=steps))=true then
  some (decide (steps<=20))
 else
  some false
instance OH{steps:Int}:iH (qE steps) fun rr=>jF Tryz.prog 33 [iD steps] (bD rr):=⟨@fun rr h=>by
 delta qE at h;refine YB.jf (gO ?_);delta WJ;refine iE ?_;exact nr⟩
def W_:gV:=
 (.seq (.gQ (sq 4 [mi 0])) (.seq (.seq (.gQ (sq 6 [mv 0,ln 6,mi 0])) (.block 0 (.loop (.seq (.gQ (sq 9 [bn .lss 8 7])) (.seq (.cond (t0 9) .skip (.exit 0)) (.seq (.block 1 (.seq (.gQ (sq 10 [mv 8]++sq 5 [mv 10])) (.seq (.gQ (sq 11 [mv 1,mv 0,mv 5,ix 6 12 13,la 6 14,.mz (t0 11) [(t0 15)]])) (.cond (t0 16) (.seq (.gQ (sq 17 [mv 5]++sq 4 [mv 17])) .ret) .skip)))) (.gQ (sq 18 [bi .add 8 1]++sq 8 [mv 18])))))))) (.seq (.gQ (sq 4 [mi (-1)])) .ret)))
theorem YT:jV Tryz.prog 68 W_ 19 [.tmp 4]:=mf Tryz.func68 Tryz.ntmps68
def ja(s:gy)(o00:gk)(o01:gw)(o1:Int):Int->Option (Int⊕Int)
 |v8=>
  if(decide (v8<(s.length:Int)))=true then
   if 0<=v8/\v8<(s.length:Int)then
    (nH ((s.getD v8.toNat default).1,(s.getD v8.toNat default).2.1,(s.getD v8.toNat default).2.2.1,(s.getD v8.toNat default).2.2.2.1,(s.getD v8.toNat default).2.2.2.2.1,(s.getD v8.toNat default).2.2.2.2.2) o00 o01 o1).bind fun r=>
    if r=true then
     Option.map Sum.inr (
      some v8)
    else
     some (.inl (IntKind.i64.wrap (v8+1)))
   else none
  else
   Option.map Sum.inr (
    some (-1))
def iS(s:gy)(o00:gk)(o01:gw)(o1:Int):Option Int:=
 g_ (ja s o00 o01 o1) 0
instance xq{s:gy}{o00:gk}{o01:gw}{o1:Int}:iH (iS s o00 o01 o1) fun rr=>h_ Tryz.prog 68 [.d (gS 6 jz s),.fn 36 [] [.ptr 0 0,.ptr 1 0]] [(0,.obj 33 [.d (gS 1 iD o00),.d (gS 2 gP o01)]),(1,.obj 2 [.d (iD o1)])] 2 fun xx ss=>xx=.d (iD rr)/\ss=[(0,.obj 33 [.d (gS 1 iD o00),.d (gS 2 gP o01)]),(1,.obj 2 [.d (iD o1)])]:=⟨@fun rr h=>by
 delta iS at h;refine YT.mm (gO ?_);delta W_;refine iE ?_;refine kT h [4,5,8,9,10,11,12,13,14,15,16,17,18] (fun pp=>[(8,.d (iD pp))]) (fun pp=>[(0,.obj 33 [.d (gS 1 iD o00),.d (gS 2 gP o01)]),(1,.obj 2 [.d (iD o1)])]) ?_;rintro v8 t1 h hb1;unfold ja at h;try dsimp only at h
 refine gO (iE ?_);refine iT h fun hc h=>?_
 refine jG h fun hp h=>?_
 refine xN (by kernel_rfl) ?_;refine vf [(0,0),(1,1)] [] h fun r hr h=>?_
 exact nr⟩
def WL:gV:=
 (.seq (.gQ (sq 4 [mb false])) (.seq (.gQ (sq 5 [mv 0,mv 1,cf 68 [5,6],bi .geq 7 0]++sq 4 [mv 8])) .ret))
theorem YD:jV Tryz.prog 35 WL 9 [.tmp 4]:=mf Tryz.func35 Tryz.ntmps35
def i_(s:gy)(o00:gk)(o01:gw)(o1:Int):Option Bool:=
 (iS s o00 o01 o1).bind fun r=>
 some (decide (0<=r))
instance wZ{s:gy}{o00:gk}{o01:gw}{o1:Int}:iH (i_ s o00 o01 o1) fun rr=>h_ Tryz.prog 35 [.d (gS 6 jz s),.fn 36 [] [.ptr 0 0,.ptr 1 0]] [(0,.obj 33 [.d (gS 1 iD o00),.d (gS 2 gP o01)]),(1,.obj 2 [.d (iD o1)])] 2 fun xx ss=>xx=.d (bD rr)/\ss=[(0,.obj 33 [.d (gS 1 iD o00),.d (gS 2 gP o01)]),(1,.obj 2 [.d (iD o1)])]:=⟨@fun rr h=>by
 delta i_ at h;refine YD.mm (gO ?_);delta WL;refine iE ?_;refine vf [(0,0),(1,1)] [] h fun r hr h=>?_
 exact nr⟩
def mc9:gV:=
 (.seq (.gQ (sq 2 [bo 2 33 0,bo 3 2 1,mb false])) (.seq (.seq (.gQ (sq 7 [la 2 2,cf 32 [7],nt 8,mv 9]++sg 10 false 11 [ld 3,cf 33 [11],nt 12]++sq 14 [po 10 13])) (.cond (t0 14) (.seq (.gQ (sq 4 [mb false])) .ret) .skip)) (.seq (.gQ (sq 16 [la 2 2,cf 34 [16]]++sq 15 [mv 17]++sq 18 [ex 15 0,ex 15 1]++sq 5 [mv 18,mv 19])) (.seq (.gQ (sq 20 [mv 6,mv 20]++sg 21 true 22 [mv 5,.zS 36 [] [(t0 2),(t0 3)],cf 35 [22,23],nt 24]++sq 26 [pa 21 25]++sq 4 [mv 26])) .ret))))
theorem fn9:jV Tryz.prog 9 mc9 27 [.tmp 4]:=mf Tryz.func9 Tryz.ntmps9
def oO(sys:gC)(steps:Int):Option Bool:=
 (oP sys).bind fun r=>
 if r=true then
  (qE steps).bind fun r_1=>
  if r_1=true then
   (rJ sys).bind fun r_2=>
   if r_2.2=true then
    (i_ r_2.1 sys.1 sys.2 steps).bind fun r_3=>
    some (!r_3)
   else
    some false
  else
   some false
 else
  some false
instance Bt{sys:gC}{steps:Int}:iH (oO sys steps) fun rr=>jF Tryz.prog 9 [ia sys,iD steps] (bD rr):=⟨@fun rr h=>by
 delta oO at h;refine fn9.jf (gO ?_);delta mc9;refine iE ?_;refine rC h fun r hr h=>?_
 refine iT h fun hc h=>?_
 refine rC h fun r_1 hr_1 h=>?_
 refine iT h fun hc h=>?_
 refine QI h fun r_2 hr_2 h=>?_
 refine iT h fun hc h=>?_
 refine vf [(0,2),(1,3)] [] h fun r_3 hr_3 h=>?_
 exact nr⟩
def wm(x:gk):D:=.agg [(gS 1 iD) x]
def kN(x:gm):D:=.agg [(gS 1 iD) x.1,(gS 1 iD) x.2]
def lA(x:gC):D:=.agg [(gS 1 iD) x.1,(gS 2 kN) x.2]
instance:sU wm 1:=⟨fun _=>rfl⟩
instance:sU kN 2:=⟨fun _=>rfl⟩
instance:sU lA 2:=⟨fun _=>rfl⟩
attribute [go_sem] wm kN lA
def WV:gV:=
 (.seq (.gQ (sq 4 [mi 0])) (.seq (.gQ (sq 5 [mv 1,mv 0,ln 6,bn .sub 5 7]++sq 1 [mv 8])) (.seq (.seq (.gQ (sq 9 [mv 1,bi .lss 9 0])) (.cond (t0 10) (.seq (.gQ (sq 4 [mi (-1)])) .ret) .skip)) (.seq (.gQ (sq 11 [mv 1]++sq 4 [mv 11])) .ret))))
theorem YM:jV Tryz.prog 59 WV 12 [.tmp 4]:=mf Tryz.func59 Tryz.ntmps59
def lV(a:gk)(left:Int):Option Int:=
 if(decide ((IntKind.i64.wrap (left-(a.length:Int)))<0))=true then
  some (-1)
 else
  some (IntKind.i64.wrap (left-(a.length:Int)))
instance Lx{a:gk}{left:Int}:iH (lV a left) fun rr=>jF Tryz.prog 59 [(gS 1 iD) a,iD left] (iD rr):=⟨@fun rr h=>by
 delta lV at h;refine YM.jf (gO ?_);delta WV;refine iE ?_;exact nr⟩
def WE:gV:=
 (.seq (.gQ (sq 2 [bo 2 24 0]++sq 4 [mi 0])) (.seq (.gQ (sq 5 [fa 0 2,ld 5,mv 1,cf 59 [6,7]]++sq 1 [mv 8])) (.seq (.seq (.gQ (sq 9 [mv 1,bi .lss 9 0])) (.cond (t0 10) (.seq (.gQ (sq 4 [mi (-1)])) .ret) .skip)) (.seq (.gQ (sq 11 [mv 1]++sq 4 [mv 11])) .ret))))
theorem Yx:jV Tryz.prog 27 WE 12 [.tmp 4]:=mf Tryz.func27 Tryz.ntmps27
def tQ(a:gk)(left:Int):Option Int:=
 (lV a left).bind fun r=>
 if(decide (r<0))=true then
  some (-1)
 else
  some r
instance Py{a:gk}{left:Int}:iH (tQ a left) fun rr=>jF Tryz.prog 27 [wm a,iD left] (iD rr):=⟨@fun rr h=>by
 delta tQ at h;refine Yx.jf (gO ?_);delta WE;refine iE ?_;exact nr⟩
def WW:gV:=
 (.seq (.gQ (sq 2 [bo 2 102 0]++sq 4 [mi 0])) (.seq (.gQ (sq 5 [fa 0 2,ld 5,mv 1,cf 59 [6,7]]++sq 1 [mv 8])) (.seq (.seq (.gQ (sq 9 [mv 1,bi .lss 9 0])) (.cond (t0 10) (.seq (.gQ (sq 4 [mi (-1)])) .ret) .skip)) (.seq (.gQ (sq 11 [fa 1 2,ld 11,mv 1,cf 59 [12,13]]++sq 1 [mv 14])) (.seq (.seq (.gQ (sq 15 [mv 1,bi .lss 15 0])) (.cond (t0 16) (.seq (.gQ (sq 4 [mi (-1)])) .ret) .skip)) (.seq (.gQ (sq 17 [mv 1]++sq 4 [mv 17])) .ret))))))
theorem YN:jV Tryz.prog 60 WW 18 [.tmp 4]:=mf Tryz.func60 Tryz.ntmps60
def qG(a:gm)(left:Int):Option Int:=
 (lV a.1 left).bind fun r=>
 if(decide (r<0))=true then
  some (-1)
 else
  (lV a.2 r).bind fun r_1=>
  if(decide (r_1<0))=true then
   some (-1)
  else
   some r_1
instance OK{a:gm}{left:Int}:iH (qG a left) fun rr=>jF Tryz.prog 60 [kN a,iD left] (iD rr):=⟨@fun rr h=>by
 delta qG at h;refine YN.jf (gO ?_);delta WW;refine iE ?_;exact nr⟩
def WG:gV:=
 (.seq (.gQ (sq 4 [mi 0])) (.seq (.gQ (sq 6 [mv 1,mv 0,ln 7,bn .sub 6 8]++sq 1 [mv 9])) (.seq (.seq (.gQ (sq 10 [mv 1,bi .lss 10 0])) (.cond (t0 11) (.seq (.gQ (sq 4 [mi (-1)])) .ret) .skip)) (.seq (.seq (.gQ (sq 5 [mi 0])) (.block 0 (.loop (.seq (.seq (.gQ (sq 12 [mv 5,mv 0,ln 13,bn .lss 12 14])) (.cond (t0 15) .skip (.exit 0))) (.seq (.block 1 (.seq (.gQ (sq 18 [mv 0,mv 5,ix 2 18 19,la 2 20,mv 1,cf 60 [21,22]]++sq 1 [mv 23])) (.seq (.gQ (sq 24 [mv 1,bi .lss 24 0])) (.cond (t0 25) (.seq (.gQ (sq 4 [mi (-1)])) .ret) .skip)))) (.gQ (sq 16 [mv 5,bi .add 16 1]++sq 5 [mv 17]))))))) (.seq (.gQ (sq 26 [mv 1]++sq 4 [mv 26])) .ret)))))
theorem Yy:jV Tryz.prog 28 WG 27 [.tmp 4]:=mf Tryz.func28 Tryz.ntmps28
def nJ(a:gw):gG->Option (gG⊕Int)
 |(left_1,i)=>
  if(decide (i<(a.length:Int)))=true then
   if 0<=i/\i<(a.length:Int)then
    (qG ((a.getD i.toNat default).1,(a.getD i.toNat default).2) left_1).bind fun r=>
    if(decide (r<0))=true then
     Option.map Sum.inr (
      some (-1))
    else
     some (.inl (r,(IntKind.i64.wrap (i+1))))
   else none
  else
   Option.map Sum.inr (
    some left_1)
def pT(a:gw)(left:Int):Option Int:=
 if(decide ((IntKind.i64.wrap (left-(a.length:Int)))<0))=true then
  some (-1)
 else
  g_ (nJ a) ((IntKind.i64.wrap (left-(a.length:Int))),0)
instance Mf{a:gw}{left:Int}:iH (pT a left) fun rr=>jF Tryz.prog 28 [(gS 2 kN) a,iD left] (iD rr):=⟨@fun rr h=>by
 delta pT at h;refine Yy.jf (gO ?_);delta WG;refine iE ?_;refine iF h fun hc h=>?_
 refine kT h [1,4,5,12,13,14,15,16,17,18,19,20,21,22,23,24,25] (fun pp=>[(1,.d (iD pp.1)),(5,.d (iD pp.2))]) (fun pp=>[]) ?_;rintro⟨left_1,i⟩ t1 h hb1;unfold nJ at h;try dsimp only at h
 refine gO (iE ?_);exact nr⟩
def mc6:gV:=
 (.seq (.gQ (sq 2 [bo 2 27 0]++sq 4 [mi 0])) (.seq (.gQ (sq 5 [fa 0 2,la 1 5,mv 1,cf 27 [6,7]]++sq 1 [mv 8])) (.seq (.seq (.gQ (sq 9 [mv 1,bi .lss 9 0])) (.cond (t0 10) (.seq (.gQ (sq 4 [mi (-1)])) .ret) .skip)) (.seq (.gQ (sq 11 [fa 1 2,ld 11,mv 1,cf 28 [12,13]]++sq 1 [mv 14])) (.seq (.seq (.gQ (sq 15 [mv 1,bi .lss 15 0])) (.cond (t0 16) (.seq (.gQ (sq 4 [mi (-1)])) .ret) .skip)) (.seq (.gQ (sq 17 [mv 1]++sq 4 [mv 17])) .ret))))))
theorem fn6:jV Tryz.prog 6 mc6 18 [.tmp 4]:=mf Tryz.func6 Tryz.ntmps6
def oS(a:gC)(left:Int):Option Int:=
 (tQ a.1 left).bind fun r=>
 if(decide (r<0))=true then
  some (-1)
 else
  (pT a.2 r).bind fun r_1=>
  if(decide (r_1<0))=true then
   some (-1)
  else
   some r_1
instance Ly{a:gC}{left:Int}:iH (oS a left) fun rr=>jF Tryz.prog 6 [lA a,iD left] (iD rr):=⟨@fun rr h=>by
 delta oS at h;refine fn6.jf (gO ?_);delta mc6;refine iE ?_;exact nr⟩
def Xa:gV:=
 (.seq (.gQ (sq 4 [mb false])) (.seq (.seq (.gQ (sq 6 [mv 0,ln 6,mv 1,ln 8,bn .neq 7 9])) (.cond (t0 10) (.seq (.gQ (sq 4 [mb false])) .ret) .skip)) (.seq (.seq (.gQ (sq 5 [mi 0])) (.block 0 (.loop (.seq (.seq (.gQ (sq 11 [mv 5,mv 0,ln 12,bn .lss 11 13])) (.cond (t0 14) .skip (.exit 0))) (.seq (.block 1 (.seq (.draw (sq 17 [mv 0,mv 5,ix 1 17 18,ld 19,mv 1,mv 5,ix 1 21 22,ld 23,bn .neq 20 24]) [[],[],[0,1],[2],[],[],[4,5],[6],[3,7]]) (.cond (t0 25) (.seq (.gQ (sq 4 [mb false])) .ret) .skip))) (.gQ (sq 15 [mv 5,bi .add 15 1]++sq 5 [mv 16]))))))) (.seq (.gQ (sq 4 [mb true])) .ret))))
theorem YU:jV Tryz.prog 71 Xa 26 [.tmp 4]:=mf Tryz.func71 Tryz.ntmps71
def oJ(a:gk)(b:gk):Int->Option gA
 |i=>
  if(decide (i<(a.length:Int)))=true then
   if 0<=i/\i<(a.length:Int)then
    if 0<=i/\i<(b.length:Int)then
     if((a.getD i.toNat default) != (b.getD i.toNat default))=true then
      Option.map Sum.inr (
       some false)
     else
      some (.inl (IntKind.i64.wrap (i+1)))
    else none
   else none
  else
   Option.map Sum.inr (
    some true)
def lU(a:gk)(b:gk):Option Bool:=
 if((a.length:Int) != (b.length:Int))=true then
  some false
 else
  g_ (oJ a b) 0
instance Lw{a:gk}{b:gk}:iH (lU a b) fun rr=>jF Tryz.prog 71 [(gS 1 iD) a,(gS 1 iD) b] (bD rr):=⟨@fun rr h=>by
 delta lU at h;refine YU.jf (gO ?_);delta Xa;refine iE ?_;refine iF h fun hc h=>?_
 refine kT h [4,5,11,12,13,14,15,16,17,18,19,20,21,22,23,24,25] (fun pp=>[(5,.d (iD pp))]) (fun pp=>[]) ?_;rintro i t1 h hb1;unfold oJ at h;try dsimp only at h
 refine gO (iE ?_);exact nr⟩
def WM:gV:=
 (.seq (.gQ (sq 2 [bo 2 30 0,bo 3 30 1,mb false])) (.seq (.seq (.gQ (sq 5 [fa 0 2,ld 5,fa 0 3,ld 7,cf 71 [6,8],nt 9])) (.cond (t0 10) (.seq (.gQ (sq 4 [mb false])) .ret) .skip)) (.seq (.gQ (sq 4 [mb true])) .ret)))
theorem YE:jV Tryz.prog 39 WM 11 [.tmp 4]:=mf Tryz.func39 Tryz.ntmps39
def tP(a:gk)(b:gk):Option Bool:=
 (lU a b).bind fun r=>
 if r=true then
  some true
 else
  some false
instance Px{a:gk}{b:gk}:iH (tP a b) fun rr=>jF Tryz.prog 39 [iU a,iU b] (bD rr):=⟨@fun rr h=>by
 delta tP at h;refine YE.jf (gO ?_);delta WM;refine iE ?_;exact nr⟩
def Xb:gV:=
 (.seq (.gQ (sq 2 [bo 2 81 0,bo 3 81 1,mb false])) (.seq (.seq (.gQ (sq 5 [fa 0 2,ld 5,fa 0 3,ld 7,cf 71 [6,8],nt 9])) (.cond (t0 10) (.seq (.gQ (sq 4 [mb false])) .ret) .skip)) (.seq (.seq (.gQ (sq 11 [fa 1 2,ld 11,fa 1 3,ld 13,cf 71 [12,14],nt 15])) (.cond (t0 16) (.seq (.gQ (sq 4 [mb false])) .ret) .skip)) (.seq (.gQ (sq 4 [mb true])) .ret))))
theorem YV:jV Tryz.prog 72 Xb 17 [.tmp 4]:=mf Tryz.func72 Tryz.ntmps72
def qF(a:gm)(b:gm):Option Bool:=
 (lU a.1 b.1).bind fun r=>
 if r=true then
  (lU a.2 b.2).bind fun r_1=>
  if r_1=true then
   some true
  else
   some false
 else
  some false
instance OJ{a:gm}{b:gm}:iH (qF a b) fun rr=>jF Tryz.prog 72 [gP a,gP b] (bD rr):=⟨@fun rr h=>by
 delta qF at h;refine YV.jf (gO ?_);delta Xb;refine iE ?_;exact nr⟩
def WN:gV:=
 (.seq (.gQ (sq 4 [mb false])) (.seq (.seq (.gQ (sq 6 [mv 0,ln 6,mv 1,ln 8,bn .neq 7 9])) (.cond (t0 10) (.seq (.gQ (sq 4 [mb false])) .ret) .skip)) (.seq (.seq (.gQ (sq 5 [mi 0])) (.block 0 (.loop (.seq (.seq (.gQ (sq 11 [mv 5,mv 0,ln 12,bn .lss 11 13])) (.cond (t0 14) .skip (.exit 0))) (.seq (.block 1 (.seq (.draw (sq 17 [mv 0,mv 5,ix 2 17 18,la 2 19,mv 1,mv 5,ix 2 21 22,la 2 23,cf 72 [20,24],nt 25]) [[],[],[0,1],[2],[],[],[4,5],[6],[3,7],[8]]) (.cond (t0 26) (.seq (.gQ (sq 4 [mb false])) .ret) .skip))) (.gQ (sq 15 [mv 5,bi .add 15 1]++sq 5 [mv 16]))))))) (.seq (.gQ (sq 4 [mb true])) .ret))))
theorem YF:jV Tryz.prog 40 WN 27 [.tmp 4]:=mf Tryz.func40 Tryz.ntmps40
def pH(a:gw)(b:gw):Int->Option gA
 |i=>
  if(decide (i<(a.length:Int)))=true then
   if 0<=i/\i<(a.length:Int)then
    if 0<=i/\i<(b.length:Int)then
     (qF ((a.getD i.toNat default).1,(a.getD i.toNat default).2) ((b.getD i.toNat default).1,(b.getD i.toNat default).2)).bind fun r=>
     if r=true then
      some (.inl (IntKind.i64.wrap (i+1)))
     else
      Option.map Sum.inr (
       some false)
    else none
   else none
  else
   Option.map Sum.inr (
    some true)
def pS(a:gw)(b:gw):Option Bool:=
 if((a.length:Int) != (b.length:Int))=true then
  some false
 else
  g_ (pH a b) 0
instance Me{a:gw}{b:gw}:iH (pS a b) fun rr=>jF Tryz.prog 40 [(gS 2 gP) a,(gS 2 gP) b] (bD rr):=⟨@fun rr h=>by
 delta pS at h;refine YF.jf (gO ?_);delta WN;refine iE ?_;refine iF h fun hc h=>?_
 refine kT h [4,5,11,12,13,14,15,16,17,18,19,20,21,22,23,24,25,26] (fun pp=>[(5,.d (iD pp))]) (fun pp=>[]) ?_;rintro i t1 h hb1;unfold pH at h;try dsimp only at h
 refine gO (iE ?_);exact nr⟩
def WB:gV:=
 (.seq (.gQ (sq 2 [bo 2 33 0,bo 3 33 1,mb false])) (.seq (.seq (.gQ (sq 5 [fa 0 2,la 1 5,fa 0 3,la 1 7,cf 39 [6,8],nt 9])) (.cond (t0 10) (.seq (.gQ (sq 4 [mb false])) .ret) .skip)) (.seq (.seq (.gQ (sq 11 [fa 1 2,ld 11,fa 1 3,ld 13,cf 40 [12,14],nt 15])) (.cond (t0 16) (.seq (.gQ (sq 4 [mb false])) .ret) .skip)) (.seq (.gQ (sq 4 [mb true])) .ret))))
theorem Yu:jV Tryz.prog 10 WB 17 [.tmp 4]:=mf Tryz.func10 Tryz.ntmps10
def oR(a:gC)(b:gC):Option Bool:=
 (tP a.1 b.1).bind fun r=>
 if r=true then
  (pS a.2 b.2).bind fun r_1=>
  if r_1=true then
   some true
  else
   some false
 else
  some false
instance Bu{a:gC}{b:gC}:iH (oR a b) fun rr=>jF Tryz.prog 10 [ia a,ia b] (bD rr):=⟨@fun rr h=>by
 delta oR at h;refine Yu.jf (gO ?_);delta WB;refine iE ?_;exact nr⟩
end Go.Proofs.YtjgbnaihpicpgaaGreatDoor
namespace Go.Proofs.YtjgbnaihpicpgaaGreatDoor
open Go lY
attribute [local irreducible] rA vi uM lW lP ng jX Ak Bj yP Bi yF tw lK nO A7 iG kj
set_option maxHeartbeats 4000000
instance:Cl kN:=Cl.agg _ (fun _=>rfl) (fun _=>rfl)
instance:Cl lA:=Cl.agg _ (fun _=>rfl) (fun _=>rfl)
instance:Cl gP:=Cl.agg _ (fun _=>rfl) (fun _=>rfl)
def SP:gV:=
 (.seq (.gQ (sq 2 [.mv (.const (.slice none 0 0))])) (.seq (.gQ (sq 5 [mv 0,ln 5,.xM 7 2 1 8 [.lit (.int .i64 0)] false (t0 6) (t0 6)]++sq 3 [mv 7])) (.seq (.seq (.gQ (sq 4 [mi 0])) (.block 0 (.loop (.seq (.seq (.gQ (sq 8 [mv 4,mv 0,ln 9,bn .lss 8 10])) (.cond (t0 11) .skip (.exit 0))) (.seq (.block 1 (.gQ (sq 14 [mv 3,mv 4,mv 0,mv 4,ix 1 16 17,ld 18,ix 1 14 15]++s0 (sr 1 20 19)))) (.gQ (sq 12 [mv 4,bi .add 12 1]++sq 4 [mv 13]))))))) (.seq (.gQ (sq 21 [mv 3]++sq 2 [mv 21])) .ret))))
theorem Wl:jV Tryz.prog 62 SP 22 [.tmp 2]:=mf Tryz.func62 Tryz.ntmps62
def qK(a:gk):(Int×gk)->Option ((Int×gk)⊕gk)
 |(i,out)=>
  if(decide (i<(a.length:Int)))=true then
   if 0<=i/\i<(a.length:Int)/\i<(out.length:Int)then
    some (.inl ((IntKind.i64.wrap (i+1)),out.set i.toNat (a.getD i.toNat default)))
   else none
  else
   Option.map Sum.inr (some out)
def qa(a:gk):Option gk:=
 if 0<=(a.length:Int)/\8*(a.length:Int)<=281474976710656/\(a.length:Int)<4611686018427387904 then
  g_ (qK a) (0,List.replicate a.length 0)
 else none
instance RE{a:gk}:iH (qa a) fun rr=>h_ Tryz.prog 62 [.d ((gS 1 iD) a)] [] 0 fun xx ss=>xx=.kL 1 900000 a.length/\ss=[(900000,.lN 1 a.length (jw (List.map iD rr)))]:=⟨@fun rr h=>by
 delta qa at h;refine Wl.Ay (gO ?_);delta SP;refine iE ?_;refine jG h fun hp h=>?_
 refine sW h [4,8,9,10,11,12,13,14,15,16,17,18,19,20] (fun pp=>[(4,.d (iD pp.1))]) (fun pp=>[(7,.lN 1 a.length (jw (List.map iD pp.2)))]) ?_ ?_
 ·try dsimp only
  refine(ij.Ul 7 (jw (List.map iD (List.replicate a.length 0))) rfl (D_ _)).trans ?_;exact wk
 rintro⟨i,out⟩ t1 h hb1;unfold qK at h;try dsimp only at h
 refine gO (iE ?_);refine it h (fun hc h=>?_) fun hc h=>?_
 ·refine jG h fun hp h=>?_
  cases h;refine⟨_,rfl,?_⟩;refine(ij.Ul 7 (jw (List.map iD (out.set i.toNat (a.getD i.toNat default)))) rfl (by(try simp only[go_sem,AQ,AP,lu,AV.iz,AV.jW]);exact Ea (i:=i.toNat) gN gN gN rfl)).trans ?_;exact wk
 replace h:=jg h hb1;cases h;exact iV.trans (iV.move 7 900000 (ob:=.lN 1 a.length (jw (List.map iD rr))) gN gN gN rfl (by first|rfl|(simp[sat,tO,Ob.jW,lu];done))) (iV.told Eu oG)⟩
def SN:gV:=
 (.seq (.gQ (sq 1 [bo 1 24 0,.alloc 2 30 [.sl 0 (some true) []]])) (.seq (.gQ (sq 3 [.alloc 3 30 [.sl 0 (some true) []]])) (.seq (.gQ (sq 4 [fa 0 1,ld 4,cf 62 [5],fa 0 3]++s0 (sr 1 7 6))) (.seq (.gQ (sq 8 [la 1 3]++s0 (sr 1 2 8))) .ret))))
theorem Wj:jV Tryz.prog 30 SN 9 [.cell 2 1 true]:=mf Tryz.func30 Tryz.ntmps30
def zx(x:gk):Option gk:=
 (qa x).bind fun r0=>
 some r0
instance Vk{x:gk}:iH (zx x) fun rr=>h_ Tryz.prog 30 [.d (.agg [(gS 1 iD) x])] [] 0 fun xx ss=>xx=.agg [.kL 1 900000 x.length]/\ss=[(900000,.lN 1 x.length (jw (List.map iD rr)))]:=⟨@fun rr h=>by
 delta zx at h;refine Wj.Ay (gO ?_);delta SN;refine iE ?_;refine vf [] [(900000,6)] h fun r0 hr0 h=>?_
 refine pz ?_;cases h;exact iV.trans ((iV.trans (iV.move 6 900000 (ob:=.lN 1 x.length (jw (List.map iD rr))) gN gN gN rfl (by first|rfl|(simp[sat,tO,Ob.jW,lu];done))) (iV.xy [1,2,3] (by simp)))) (iV.told Eu oG)⟩
def SQ:gV:=
 (.seq (.gQ (sq 1 [bo 1 102 0,.alloc 2 81 [.sl 0 (some true) [],.sl 0 (some true) []]])) (.seq (.gQ (sq 3 [.alloc 3 81 [.sl 0 (some true) [],.sl 0 (some true) []]])) (.seq (.gQ (sq 4 [fa 0 1,ld 4,cf 62 [5],fa 0 3]++s0 (sr 1 7 6))) (.seq (.gQ (sq 8 [fa 1 1,ld 8,cf 62 [9],fa 1 3]++s0 (sr 1 11 10))) (.seq (.gQ (sq 12 [la 2 3]++s0 (sr 2 2 12))) .ret)))))
theorem Wm:jV Tryz.prog 63 SQ 13 [.cell 2 2 true]:=mf Tryz.func63 Tryz.ntmps63
def vC(x:gm):Option gm:=
 (qa x.1).bind fun r0=>
 (qa x.2).bind fun r1=>
 some (r0,r1)
instance U1{x:gm}:iH (vC x) fun rr=>h_ Tryz.prog 63 [.d (.agg [(gS 1 iD) x.1,(gS 1 iD) x.2])] [] 0 fun xx ss=>xx=.agg [.kL 1 900000 x.1.length,.kL 1 900001 x.2.length]/\ss=[(900000,.lN 1 x.1.length (jw (List.map iD rr.1))),(900001,.lN 1 x.2.length (jw (List.map iD rr.2)))]:=⟨@fun rr h=>by
 delta vC at h;refine Wm.Ay (gO ?_);delta SQ;refine iE ?_;refine vf [] [(900000,6)] h fun r0 hr0 h=>?_
 refine pz ?_;refine vf [] [(900000,10)] h fun r1 hr1 h=>?_
 refine pz ?_;cases h;exact iV.trans ((iV.trans (iV.move 6 900000 (ob:=.lN 1 x.1.length (jw (List.map iD r0))) gN gN gN rfl (by first|rfl|(simp[sat,tO,Ob.jW,lu];done))) (iV.trans (iV.move 10 900001 (ob:=.lN 1 x.2.length (jw (List.map iD r1))) gN gN gN rfl (by first|rfl|(simp[sat,tO,Ob.jW,lu];done))) (iV.xy [1,2,3] (by simp))))) (iV.told Eu oG)⟩
def SO:gV:=
 (.seq (.gQ (sq 2 [.mv (.const (.slice none 0 0))])) (.seq (.gQ (sq 5 [mv 0,ln 5,.xM 7 81 2 48 [.sl 0 (some true) [],.sl 0 (some true) []] false (t0 6) (t0 6)]++sq 3 [mv 7])) (.seq (.seq (.gQ (sq 4 [mi 0])) (.block 0 (.loop (.seq (.seq (.gQ (sq 8 [mv 4,mv 0,ln 9,bn .lss 8 10])) (.cond (t0 11) .skip (.exit 0))) (.seq (.block 1 (.gQ (sq 14 [mv 3,mv 4,mv 0,mv 4,ix 2 16 17,la 2 18,cf 63 [19],ix 2 14 15]++s0 (sr 2 21 20)))) (.gQ (sq 12 [mv 4,bi .add 12 1]++sq 4 [mv 13]))))))) (.seq (.gQ (sq 22 [mv 3]++sq 2 [mv 22])) .ret))))
theorem Wk:jV Tryz.prog 31 SO 23 [.tmp 2]:=mf Tryz.func31 Tryz.ntmps31
def rV(a:List gm):(Int×List gm)->Option ((Int×List gm)⊕List gm)
 |(i,out)=>
  if(decide (i<(a.length:Int)))=true then
   if 0<=i/\i<(a.length:Int)/\i<(out.length:Int)then
    (vC (a.getD i.toNat default)).bind fun r=>
    some (.inl ((IntKind.i64.wrap (i+1)),out.set i.toNat r))
   else none
  else
   Option.map Sum.inr (some out)
def ur(a:List gm):Option gw:=
 if 0<=(a.length:Int)/\48*(a.length:Int)<=281474976710656/\(a.length:Int)<4611686018427387904 then
  g_ (rV a) (0,List.replicate a.length ([],[]))
 else none
instance TA{a:List gm}:iH (ur a) fun rr=>h_ Tryz.prog 31 [.d ((gS 2 kN) a)] [] 0 fun xx ss=>xx=.kL 2 900000 a.length/\ss=[(900000,.lN 2 a.length (jw (List.map gP rr)))]:=⟨@fun rr h=>by
 delta ur at h;refine Wk.Ay (gO ?_);delta SO;refine iE ?_;refine jG h fun hp h=>?_
 refine sW h [4,8,9,10,11,12,13,14,15,16,17,18,19,20,21] (fun pp=>[(4,.d (iD pp.1))]) (fun pp=>[(7,.lN 2 a.length (jw (List.map gP pp.2)))]) ?_ ?_
 ·try dsimp only
  refine(ij.ZI (id:=7) (f:=gP) ([],[]) rfl (by exact⟨To.XF,⟨To.XF,trivial⟩⟩)).trans ?_;exact wk
 rintro⟨i,out⟩ t1 h hb1;unfold rV at h;try dsimp only at h
 refine gO (iE ?_);refine it h (fun hc h=>?_) fun hc h=>?_
 ·refine jG h fun hp h=>?_
  refine vf [] [(900000,20),(900001,200001)] h fun r hr h=>?_
  refine pz ?_;cases h;refine⟨_,rfl,?_⟩;refine(ij.LW (f':=iD) (ys:=r.1) (m:=(a.getD i.toNat default).1.length) (m':=(a.getD i.toNat default).1.length) 7 20 0 rfl rfl (by first|rfl|(simp[sat,AW,sset,iW,Ob.kill,Ob.jW,lu];done)) rfl (by decide) gN (by decide)).trans ?_;refine(ij.LW (f':=iD) (ys:=r.2) (m:=(a.getD i.toNat default).2.length) (m':=(a.getD i.toNat default).2.length) 7 200001 1 rfl rfl (by first|rfl|(simp[sat,AW,sset,iW,Ob.kill,Ob.jW,lu];done)) rfl (by decide) gN (by decide)).trans ?_;refine(ij.drop 20 gN).trans ?_;refine(ij.drop 200001 gN).trans ?_;refine(ij.Ul 7 (jw (List.map gP (out.set i.toNat r))) rfl (by(try simp only[go_sem,AQ,AP,lu,AV.iz,AV.jW]);exact Ea (i:=i.toNat) gN gN gN rfl)).trans ?_;exact wk
 replace h:=jg h hb1;cases h;exact iV.trans (iV.move 7 900000 (ob:=.lN 2 a.length (jw (List.map gP rr))) gN gN gN rfl (by first|rfl|(simp[sat,tO,Ob.jW,lu];done))) (iV.told Eu oG)⟩
def Xz:gV:=
 (.seq (.gQ (sq 1 [bo 1 27 0,.alloc 2 33 [.sl 0 (some true) [],.sl 0 (some true) []]])) (.seq (.gQ (sq 3 [.alloc 3 33 [.sl 0 (some true) [],.sl 0 (some true) []]])) (.seq (.gQ (sq 4 [fa 0 1,la 1 4,cf 30 [5],fa 0 3]++s0 (sr 1 7 6))) (.seq (.gQ (sq 8 [fa 1 1,ld 8,cf 31 [9],fa 1 3]++s0 (sr 1 11 10))) (.seq (.gQ (sq 12 [la 2 3]++s0 (sr 2 2 12))) .ret)))))
theorem Ze:jV Tryz.prog 8 Xz 13 [.cell 2 2 true]:=mf Tryz.func8 Tryz.ntmps8
def qb(x:gC):Option gC:=
 (zx x.1).bind fun r0=>
 (ur x.2).bind fun r1=>
 some (r0,r1)
instance Fy{x:gC}:iH (qb x) fun rr=>h_ Tryz.prog 8 [.d (.agg [(gS 1 iD) x.1,(gS 2 kN) x.2])] [] 0 fun xx ss=>xx=.agg [.kL 1 900000 x.1.length,.kL 2 900001 x.2.length]/\ss=[(900000,.lN 1 x.1.length (jw (List.map iD rr.1))),(900001,.lN 2 x.2.length (jw (List.map gP rr.2)))]:=⟨@fun rr h=>by
 delta qb at h;refine Ze.Ay (gO ?_);delta Xz;refine iE ?_;refine vf [] [(900000,6)] h fun r0 hr0 h=>?_
 refine pz ?_;refine vf [] [(900000,10)] h fun r1 hr1 h=>?_
 refine pz ?_;cases h;exact iV.trans ((iV.trans (iV.move 6 900000 (ob:=.lN 1 x.1.length (jw (List.map iD r0))) gN gN gN rfl (by first|rfl|(simp[sat,tO,Ob.jW,lu];done))) (iV.trans (iV.move 10 900001 (ob:=.lN 2 x.2.length (jw (List.map gP r1))) gN gN gN rfl (by first|rfl|(simp[sat,tO,Ob.jW,lu];done))) (iV.xy [1,2,3] (by simp))))) (iV.told Eu oG)⟩
def tR(x:gC):Option gC:=(qb x).bind fun r=>if x.1.length=r.1.length/\x.2.length=r.2.length then some r else none
instance Pz{x:gC}:iH (tR x) fun rr=>jF Tryz.prog 8 [(.agg [(gS 1 iD) x.1,(gS 2 kN) x.2])] (.agg [(gS 1 iD) rr.1,(gS 2 gP) rr.2]):=⟨@fun rr h=>by
 obtain⟨r,h1,h2⟩:=bind_some h;obtain⟨hp,h2⟩:=rj h2;cases h2;exact h_.pub (dz:=[(.agg [(gS 1 iD) x.1,(gS 2 kN) x.2])]) (tl:=[(900000,1,List.map iD rr.1),(900001,2,List.map gP rr.2)]) ((Fy).c h1) (by simp[toks];try omega) (.agg (.cons (JZ.tok (f:=iD) (by simp[toks,sat];try omega) gN) (.cons (JZ.tok (f:=gP) (by simp[toks,sat];try omega) gN) .nil)))⟩
def ql(n0:Nat)(n1:Nat)(x0:gC)(x1:Int):Option Bool:=if n0=x0.1.length/\n1=x0.2.length then oO x0 x1 else none
instance G7{n0:Nat}{n1:Nat}{x0:gC}{x1:Int}:iH (ql n0 n1 x0 x1) fun rr=>h_ Tryz.prog 9 [.agg [.kL 1 0 n0,.kL 2 1 n1],.d (iD x1)] [(0,.lN 1 n0 (jw (List.map iD x0.1))),(1,.lN 2 n1 (jw (List.map gP x0.2)))] 2 fun xx ss=>xx=.d (bD rr)/\ss=[(0,.lN 1 n0 (jw (List.map iD x0.1))),(1,.lN 2 n1 (jw (List.map gP x0.2)))]:=⟨@fun rr h=>by
 obtain⟨hp,h⟩:=rj h;exact h_.Wr ((Bt).c h) (.cons (.agg (.cons (yA.tok (f:=iD) rfl gN) (.cons (yA.tok (f:=gP) rfl gN) .nil))) (.cons (.le (AV.le_refl _)) .nil))⟩
def qm(n0:Nat)(n1:Nat)(n2:Nat)(n3:Nat)(x0:gC)(x1:gC):Option Bool:=if n0=x0.1.length/\n1=x0.2.length/\n2=x1.1.length/\n3=x1.2.length then oR x0 x1 else none
instance G8{n0:Nat}{n1:Nat}{n2:Nat}{n3:Nat}{x0:gC}{x1:gC}:iH (qm n0 n1 n2 n3 x0 x1) fun rr=>h_ Tryz.prog 10 [.agg [.kL 1 0 n0,.kL 2 1 n1],.agg [.kL 1 2 n2,.kL 2 3 n3]] [(0,.lN 1 n0 (jw (List.map iD x0.1))),(1,.lN 2 n1 (jw (List.map gP x0.2))),(2,.lN 1 n2 (jw (List.map iD x1.1))),(3,.lN 2 n3 (jw (List.map gP x1.2)))] 4 fun xx ss=>xx=.d (bD rr)/\ss=[(0,.lN 1 n0 (jw (List.map iD x0.1))),(1,.lN 2 n1 (jw (List.map gP x0.2))),(2,.lN 1 n2 (jw (List.map iD x1.1))),(3,.lN 2 n3 (jw (List.map gP x1.2)))]:=⟨@fun rr h=>by
 obtain⟨hp,h⟩:=rj h;exact h_.Wr ((Bu).c h) (.cons (.agg (.cons (yA.tok (f:=iD) rfl gN) (.cons (yA.tok (f:=gP) rfl gN) .nil))) (.cons (.agg (.cons (yA.tok (f:=iD) rfl gN) (.cons (yA.tok (f:=gP) rfl gN) .nil))) .nil))⟩
end Go.Proofs.YtjgbnaihpicpgaaGreatDoor
namespace Go.Proofs.YtjgbnaihpicpgaaGreatDoor
open Go lY
attribute [local irreducible] rA vi uM lW lP ng jX Ak Bj yP Bi yF tw lK nO A7 iG kj
set_option maxHeartbeats 4000000
attribute [-go_sem] sat sset
def mc3:gV:=
 (.seq (.gQ (sq 2 [bo 2 27 0]++sq 4 [mb false])) (.seq (.gQ (sq 5 [mi 1048576])) (.seq (.gQ (sq 9 [la 2 2,mv 5,cf 6 [9,10]]++sq 5 [mv 11])) (.seq (.seq (.gQ (sq 12 [mv 5,bi .lss 12 0])) (.cond (t0 13) (.seq (.gQ (sq 4 [mb true])) .ret) .skip)) (.seq (.gQ (sq 14 [la 2 2,cf 8 [14],mv 1,cf 7 [15,16]]++sq 6 [mv 17])) (.seq (.gQ (sq 18 [la 2 2,cf 8 [18]]++sq 7 [.alloc 7 33 [.sl 0 (some true) [],.sl 0 (some true) []]]++s0 (sr 2 7 19))) (.seq (.gQ (sq 20 [la 2 7,mv 1,cf 9 [20,21]]++sq 8 [mv 22])) (.seq (.seq (.gQ (sq 23 [mv 8,mv 6,.Df true (t0 23) (t0 24)])) (.cond (t0 25) (.seq (.gQ (sq 4 [mb false])) .ret) .skip)) (.seq (.seq (.draw (sq 26 [la 2 7,la 2 2,cf 8 [27],cf 10 [26,28],nt 29]) [[],[],[1],[0,2,2],[3]]) (.cond (t0 30) (.seq (.gQ (sq 4 [mb false])) .ret) .skip)) (.seq (.gQ (sq 4 [mb true])) .ret))))))))))
theorem fn3:jV Tryz.prog 3 mc3 31 [.tmp 4]:=mf Tryz.func3 Tryz.ntmps3
def mh(aSys:gC)(aSteps:Int):Option Bool:=
 (oS aSys 1048576).bind fun r=>
 if(decide (r<0))=true then
  some true
 else
  (tR aSys).bind fun v=>
  (oT v aSteps).bind fun r_1=>
  (qb aSys).bind fun v_1=>
  (ql aSys.1.length aSys.2.length v_1 aSteps).bind fun q=>
  if(q != r_1)=true then
   some false
  else
   (qb aSys).bind fun v_2=>
   (qm aSys.1.length aSys.2.length aSys.1.length aSys.2.length v_1 v_2).bind fun q_1=>
   if q_1=true then
    some true
   else
    some false
instance wB{aSys:gC}{aSteps:Int}:iH (mh aSys aSteps) fun rr=>jF Tryz.prog 3 [lA aSys,iD aSteps] (bD rr):=⟨@fun rr h=>by
 delta mh at h;refine fn3.jf (gO ?_);delta mc3;refine iE ?_;refine rC h fun r hr h=>?_
 refine iF h fun hc h=>?_
 refine rC h fun v hv h=>?_
 refine rC h fun r_1 hr_1 h=>?_
 refine vf [] [(900000,19),(900001,200000)] h fun v_1 hv_1 h=>?_
 refine vf [(0,19),(1,200000)] [] h fun q hq h=>?_
 refine iF h fun hc h=>?_
 refine PM [] [(900000,28),(900001,200001)] h fun v_2 hv_2 h=>?_
 refine PM [(0,19),(1,200000),(2,28),(3,200001)] [] h fun q_1 hq_1 h=>?_
 exact nr⟩
end Go.Proofs.YtjgbnaihpicpgaaGreatDoor
