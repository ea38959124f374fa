/- A part of the proof about FnAcMatches (D1). -/
import Derived.Test.YthdnkoejpdcnpaaGreatMad
import Derived.Test.YthdnkoejpdcnpaaGreatMag
import Derived.Test.YthdnkoejpdcnpaaGreatMah
set_option linter.all false
noncomputable section
namespace Go.Proofs.YthdnkoejpdcnpaaGreat
open Go kJ
attribute [local irreducible] sG ud tP lp kI oZ jk ya yG wF yF wv rj kR lN ym gV ki
set_option maxHeartbeats 4000000
set_option maxRecDepth 4000
def UA:gB:=
 (.seq (.gv (sq 2 [bo 2 27 0,bo 3 47 1,mb false])) (.seq (.seq (.gv (sq 6 [la 1 2,cf 104 [6],nt 7,mv 8]++sg 9 false 10 [fa 0 3,ld 10,ln 11,bi .gtr 12 24]++sq 14 [po 9 13])) (.cond (t0 14) (.seq (.gv (sq 4 [mb false])) .ret) .skip)) (.seq (.seq (.gv (sq 5 [mi 0])) (.block 0 (.loop (.seq (.seq (.gv (sq 15 [mv 5,fa 0 3,ld 16,ln 17,bn .lss 15 18])) (.cond (t0 19) .skip (.exit 0))) (.seq (.block 1 (.seq (.draw (sq 22 [fa 0 3,ld 22,mv 5,ix 1 23 24,ld 25,ln 26,bi .gtr 27 0,mv 28]++sg 29 true 30 [la 1 2,fa 0 3,ld 31,mv 5,ix 1 32 33,ld 34,cf 60 [30,35],nt 36]++sq 38 [pa 29 37]) [[],[0],[],[1,2],[3],[4],[5],[6],[7],[7],[9,7],[7],[10,11,7],[12,7],[8,13,7,7],[14,7],[7,15]]) (.cond (t0 38) (.seq (.gv (sq 4 [mb false])) .ret) .skip))) (.gv (sq 20 [mv 5,bi .add 20 1]++sq 5 [mv 21]))))))) (.seq (.gv (sq 4 [mb true])) .ret))))
theorem VV:kG Tryz.prog 58 UA 39 [.tmp 4]:=mf Tryz.func58 Tryz.ntmps58
def nu(sig:fN)(s:fO):Int->Option fS
 |i=>
  if(decide (i<(s.length:Int)))=true then
   if 0<=i/\i<(s.length:Int)then
    if(decide (0<((s.getD i.toNat default).length:Int)))=true then
     if 0<=i/\i<(s.length:Int)then
      (lB sig (s.getD i.toNat default)).bind fun r_1=>
      if r_1=true then
       some (.inl (IntKind.i64.wrap (i+1)))
      else
       Option.map Sum.inr (
        some false)
     else none
    else
     some (.inl (IntKind.i64.wrap (i+1)))
   else none
  else
   Option.map Sum.inr (
    some true)
def mL(sig:fN)(s:fO):Option Bool:=
 (nr sig).bind fun r=>
 if r=true then
  if(decide (24<(s.length:Int)))=true then
   some false
  else
   gF (nu sig s) 0
 else
  some false
instance KQ{sig:fN}{s:fO}:gP (mL sig s) fun rr=>iw Tryz.prog 58 [gE sig,g_ s] (bD rr):=⟨@fun rr h=>by
 delta mL at h;refine VV.iu (gr ?_);delta UA;refine gW ?_;refine rC h fun r hr h=>?_
 refine iT h fun hc h=>?_
 refine iF h fun hc h=>?_
 refine jC h [4,5,15,16,17,18,19,20,21,22,23,24,25,26,27,28,29,30,31,32,33,34,35,36,37,38] (fun pp=>[(5,.d (iD pp))]) (fun pp=>[(2,.obj 27 [.d (gu 1 iD sig)]),(3,.obj 47 [.d (gu 1 (gu 1 iD) s)])]) ?_;rintro i t1 h hb1;unfold nu at h;try dsimp only at h
 refine gr (gW ?_);exact mj⟩
def Up:gB:=
 (.seq (.gv (sq 3 [bo 3 27 0,bo 4 47 1,bo 5 47 2,mb false])) (.seq (.seq (.gv (sq 8 [la 1 3,la 1 4,cf 58 [8,9],nt 10,mv 11]++sg 12 false 13 [la 1 3,la 1 5,cf 58 [13,14],nt 15]++sq 17 [po 12 16])) (.cond (t0 17) (.seq (.gv (sq 6 [mb false])) .ret) .skip)) (.seq (.seq (.gv (sq 7 [mi 0])) (.block 0 (.loop (.seq (.seq (.gv (sq 18 [mv 7,bi .lss 18 24])) (.cond (t0 19) .skip (.exit 0))) (.seq (.block 1 (.seq (.draw (sq 22 [la 1 4,mv 7,cf 59 [22,23],la 1 5,mv 7,cf 59 [25,26],cf 48 [24,27],nt 28]) [[],[],[0,1],[],[],[3,4,2],[2,5,5],[6]]) (.cond (t0 29) (.seq (.gv (sq 6 [mb false])) .ret) .skip))) (.gv (sq 20 [mv 7,bi .add 20 1]++sq 7 [mv 21]))))))) (.seq (.gv (sq 6 [mb true])) .ret))))
theorem VK:kG Tryz.prog 26 Up 30 [.tmp 6]:=mf Tryz.func26 Tryz.ntmps26
def lU(a:fO)(b:fO):Int->Option fS
 |i=>
  if(decide (i<24))=true then
   (lK a i).bind fun r_2=>
   (lK b i).bind fun r_3=>
   (iR r_2 r_3).bind fun r_4=>
   if r_4=true then
    some (.inl (IntKind.i64.wrap (i+1)))
   else
    Option.map Sum.inr (
     some false)
  else
   Option.map Sum.inr (
    some true)
def nP(sig:fN)(a:fO)(b:fO):Option Bool:=
 (mL sig a).bind fun r=>
 if r=true then
  (mL sig b).bind fun r_1=>
  if r_1=true then
   gF (lU a b) 0
  else
   some false
 else
  some false
instance I1{sig:fN}{a:fO}{b:fO}:gP (nP sig a b) fun rr=>iw Tryz.prog 26 [gE sig,g_ a,g_ b] (bD rr):=⟨@fun rr h=>by
 delta nP at h;refine VK.iu (gr ?_);delta Up;refine gW ?_;refine rC h fun r hr h=>?_
 refine iT h fun hc h=>?_
 refine rC h fun r_1 hr_1 h=>?_
 refine iT h fun hc h=>?_
 refine jC h [6,7,18,19,20,21,22,23,24,25,26,27,28,29] (fun pp=>[(7,.d (iD pp))]) (fun pp=>[(3,.obj 27 [.d (gu 1 iD sig)]),(4,.obj 47 [.d (gu 1 (gu 1 iD) a)]),(5,.obj 47 [.d (gu 1 (gu 1 iD) b)])]) ?_;rintro i t1 h hb1;unfold lU at h;try dsimp only at h
 refine gr (gW ?_);exact mj⟩
def Uq:gB:=
 (.seq (.gv (sq 3 [bo 3 27 0,bo 4 47 1]++sq 6 [.mv (.const (.slice none 0 0)),mb false])) (.seq (.seq (.gv (sq 8 [la 1 3,la 1 4,cf 58 [8,9],nt 10,mv 11]++sg 12 false 13 [la 1 3,mv 2,cf 60 [13,14],nt 15]++sq 17 [po 12 16])) (.cond (t0 17) (.seq (.gv (sq 18 [.mW 18 2 1 []]++sq 6 [mv 18,mb false])) .ret) .skip)) (.seq (.gv (sq 19 [la 1 4,mv 2,cf 61 [19,20],ex 21 0,ex 21 1]++sq 6 [mv 22,mv 23])) .ret)))
theorem VL:kG Tryz.prog 27 Uq 24 [.tmp 6,.tmp 7]:=mf Tryz.func27 Tryz.ntmps27
def qg(sig:fN)(s:fO)(t:fN):Option (fN×Bool):=
 (mL sig s).bind fun r=>
 if r=true then
  (lB sig t).bind fun r_1=>
  if r_1=true then
   (lQ s t).bind fun r_2=>
   some r_2
  else
   some ([],false)
 else
  some ([],false)
instance Nb{sig:fN}{s:fO}{t:fN}:gP (qg sig s t) fun rr=>rW Tryz.prog 27 [gE sig,g_ s,(gu 1 iD) t] [(gu 1 iD) rr.1,bD rr.2]:=⟨@fun rr h=>by
 delta qg at h;refine VL.uA (gr ?_);delta Uq;refine gW ?_;exact mj⟩
def Ur:gB:=
 (.seq (.gv (sq 4 [bo 4 27 0]++sq 8 [mb false])) (.seq (.seq (.gv (sq 9 [la 1 4,mv 1,mv 2,cf 50 [9,10,11],nt 12,mv 13]++sg 14 false 15 [la 1 4,mv 1,mv 3,cf 50 [15,16,17],nt 18]++sq 20 [po 14 19])) (.cond (t0 20) (.seq (.gv (sq 8 [mb false])) .ret) .skip)) (.seq (.draw (sq 21 [la 1 4,mv 1,mv 2,cf 62 [21,22,23],la 1 4,mv 1,mv 3,cf 62 [25,26,27],cf 48 [24,28]]++sq 8 [mv 29]) [[],[],[],[0,1,2],[],[],[],[4,5,6,3],[3,7,7],[8,8,0,1,2,3,4,5,6,7,8]]) .ret)))
theorem VM:kG Tryz.prog 28 Ur 30 [.tmp 8]:=mf Tryz.func28 Tryz.ntmps28
def qf(sig:fN)(ac:fN)(a:fN)(b:fN):Option Bool:=
 (kf sig ac a).bind fun r=>
 if r=true then
  (kf sig ac b).bind fun r_1=>
  if r_1=true then
   (mP sig ac a).bind fun r_2=>
   (mP sig ac b).bind fun r_3=>
   (iR r_2 r_3).bind fun r_4=>
   some r_4
  else
   some false
 else
  some false
instance Na{sig:fN}{ac:fN}{a:fN}{b:fN}:gP (qf sig ac a b) fun rr=>iw Tryz.prog 28 [gE sig,(gu 1 iD) ac,(gu 1 iD) a,(gu 1 iD) b] (bD rr):=⟨@fun rr h=>by
 delta qf at h;refine VM.iu (gr ?_);delta Ur;refine gW ?_;exact mj⟩
def PY:gB:=
 (.seq (.gv (sq 3 [bo 3 27 0]++sq 6 [.alloc 6 47 [.sl 0 (some true) []],mb false])) (.seq (.gv (sq 13 [.xZ 13 22 1 24 [.sl 0 (some true) []] false (i0 24) (i0 24),.build [.sl 0 (some true) []] [(0,1,(t0 13))]]++sq 8 [.alloc 8 47 [.sl 0 (some true) []]]++s0 (sr 1 8 14))) (.seq (.gv (sq 9 [mi 0])) (.seq (.seq (.gv (sq 10 [mi 0])) (.block 0 (.loop (.seq (.seq (.gv (sq 15 [mv 10,mv 1,ln 16,bn .lss 15 17])) (.cond (t0 18) .skip (.exit 0))) (.seq (.block 1 (.seq (.seq (.gv (sq 21 [mv 9,mv 2,ln 22,bn .geq 21 23])) (.cond (t0 24) (.seq (.gv (sq 25 [.build [.sl 0 (some true) []] []]++s0 (sr 1 6 25)++sq 7 [mb false])) .ret) .skip)) (.seq (.seq (.gv (sq 26 [mv 1,mv 10,ix 1 26 27,ld 28,bi .geq 29 0])) (.cond (t0 30) (.seq (.seq (.draw (sq 31 [mv 1,mv 10,ix 1 31 32,ld 33,mv 2,mv 9,ix 1 35 36,ld 37,bn .neq 34 38]) [[],[],[0,1],[2],[],[],[4,5],[6],[3,7]]) (.cond (t0 39) (.seq (.gv (sq 40 [.build [.sl 0 (some true) []] []]++s0 (sr 1 6 40)++sq 7 [mb false])) .ret) .skip)) (.seq (.gv (sq 41 [mv 9,bi .add 41 1]++sq 9 [mv 42])) (.exit 1))) .skip)) (.seq (.gv (sq 43 [la 1 3,mv 2,mv 9,cf 112 [43,44,45]]++sq 11 [mv 46])) (.seq (.draw (sq 47 [fa 0 8,ld 47,mv 1,mv 10,ix 1 49 50,ld 51,.bin .sub (i0 (-1)) (t0 52),ix 1 48 53,ld 54]++sq 12 [mv 55]) [[],[0],[],[],[2,3],[4],[5],[1,6],[7],[8,0,1,2,3,4,5,6,7,8]]) (.seq (.seq (.gv (sq 56 [mv 12,ln 56,bi .gtr 57 0,mv 58]++sg 59 true 60 [mv 12,mv 11,cf 48 [60,61],nt 62]++sq 64 [pa 59 63])) (.cond (t0 64) (.seq (.gv (sq 65 [.build [.sl 0 (some true) []] []]++s0 (sr 1 6 65)++sq 7 [mb false])) .ret) .skip)) (.seq (.draw (sq 66 [fa 0 8,ld 66,mv 1,mv 10,ix 1 68 69,ld 70,.bin .sub (i0 (-1)) (t0 71),mv 11,ix 1 67 72]++s0 (sr 1 74 73)) [[],[0],[],[],[2,3],[4],[5],[],[1,6,0,1,2,3,4,5,6,7],[8,7,0,1,2,3,4,5,6,7]]) (.gv (sq 75 [mv 9,mv 11,ln 76,bn .add 75 77]++sq 9 [mv 78]))))))))) (.gv (sq 19 [mv 10,bi .add 19 1]++sq 10 [mv 20]))))))) (.seq (.gv (sq 79 [la 1 8,cf 85 [79]]++s0 (sr 1 6 80)++sq 7 [mb true])) .ret)))))
theorem Tt:kG Tryz.prog 113 PY 81 [.cell 6 1 true,.tmp 7]:=mf Tryz.func113 Tryz.ntmps113
def rJ(sig:fN)(p:fN)(t:fN):(Int×Int×fO)->Option ((Int×Int×fO)⊕(fO×Bool))
 |(k,i,l13)=>
  if(decide (i<(p.length:Int)))=true then
   if(decide ((t.length:Int)<=k))=true then
    Option.map Sum.inr (
     some ([],false))
   else
    if 0<=i/\i<(p.length:Int)then
     if(decide (0<=(p.getD i.toNat default)))=true then
      if 0<=i/\i<(p.length:Int)then
       if 0<=k/\k<(t.length:Int)then
        if((p.getD i.toNat default) != (t.getD k.toNat default))=true then
         Option.map Sum.inr (
          some ([],false))
        else
         some (.inl ((IntKind.i64.wrap (k+1)),(IntKind.i64.wrap (i+1)),l13))
       else none
      else none
     else
      (iQ sig t k).bind fun r=>
      if 0<=i/\i<(p.length:Int)then
       if 0<=(IntKind.i64.wrap ((-1)-(p.getD i.toNat default)))/\(IntKind.i64.wrap ((-1)-(p.getD i.toNat default)))<(24:Int)/\(IntKind.i64.wrap ((-1)-(p.getD i.toNat default)))<(l13.length:Int)then
        if(decide (0<((l13.getD (IntKind.i64.wrap ((-1)-(p.getD i.toNat default))).toNat default).length:Int)))=true then
         (iR (l13.getD (IntKind.i64.wrap ((-1)-(p.getD i.toNat default))).toNat default) r).bind fun r_1=>
         if r_1=true then
          if 0<=i/\i<(p.length:Int)then
           if 0<=(IntKind.i64.wrap ((-1)-(p.getD i.toNat default)))/\(IntKind.i64.wrap ((-1)-(p.getD i.toNat default)))<(24:Int)/\(IntKind.i64.wrap ((-1)-(p.getD i.toNat default)))<(l13.length:Int)then
            some (.inl ((IntKind.i64.wrap (k+(r.length:Int))),(IntKind.i64.wrap (i+1)),(l13.set (IntKind.i64.wrap ((-1)-(p.getD i.toNat default))).toNat r)))
           else none
          else none
         else
          Option.map Sum.inr (
           some ([],false))
        else
         if 0<=i/\i<(p.length:Int)then
          if 0<=(IntKind.i64.wrap ((-1)-(p.getD i.toNat default)))/\(IntKind.i64.wrap ((-1)-(p.getD i.toNat default)))<(24:Int)/\(IntKind.i64.wrap ((-1)-(p.getD i.toNat default)))<(l13.length:Int)then
           some (.inl ((IntKind.i64.wrap (k+(r.length:Int))),(IntKind.i64.wrap (i+1)),(l13.set (IntKind.i64.wrap ((-1)-(p.getD i.toNat default))).toNat r)))
          else none
         else none
       else none
      else none
    else none
  else
   Option.map Sum.inr (
    if l13.length=24 then
     (oa l13).bind fun r_2=>
     some (r_2,true)
    else none)
def pH(sig:fN)(p:fN)(t:fN):Option (fO×Bool):=
 gF (rJ sig p t) (0,0,(List.replicate 24 []))
instance KZ{sig:fN}{p:fN}{t:fN}:gP (pH sig p t) fun rr=>rW Tryz.prog 113 [gE sig,(gu 1 iD) p,(gu 1 iD) t] [g_ rr.1,bD rr.2]:=⟨@fun rr h=>by
 delta pH at h;refine Tt.uA (gr ?_);delta PY;refine gW ?_;refine yf ?_;refine jC h [7,9,10,11,12,15,16,17,18,19,20,21,22,23,24,25,26,27,28,29,30,31,32,33,34,35,36,37,38,39,40,41,42,43,44,45,46,47,48,49,50,51,52,53,54,55,56,57,58,59,60,61,62,63,64,65,66,67,68,69,70,71,72,73,74,75,76,77,78] (fun pp=>[(9,.d (iD pp.1)),(10,.d (iD pp.2.1))]) (fun pp=>[(3,.obj 27 [.d (gu 1 iD sig)]),(6,.obj 47 [.d (.sl 0 (some true) [])]),(8,.obj 47 [.mm 1 13 0 24]),(13,.obj 22 (List.map (aD (gu 1 iD)) pp.2.2))]) ?_;rintro⟨k,i,l13⟩ t1 h hb1;unfold rJ at h;try dsimp only at h
 refine gr (gW ?_);refine iF h fun hc h=>?_
 replace h:=gT h hb1;refine iC h fun hp h=>?_
 refine yc 13 (gu 1 iD) l13 gq rfl (fun _=>rfl) (gW ?_);refine rC h fun r_2 hr_2 h=>?_
 exact mj⟩
def UF:gB:=
 (.seq (.gv (sq 3 [bo 3 27 0]++sq 6 [.alloc 6 47 [.sl 0 (some true) []],mb false])) (.seq (.seq (.gv (sq 8 [la 1 3,mv 1,cf 60 [8,9],nt 10,mv 11]++sg 12 false 13 [la 1 3,mv 2,cf 60 [13,14],nt 15]++sq 17 [po 12 16])) (.cond (t0 17) (.seq (.gv (sq 18 [.build [.sl 0 (some true) []] []]++s0 (sr 1 6 18)++sq 7 [mb false])) .ret) .skip)) (.seq (.gv (sq 19 [la 1 3,mv 1,mv 2,cf 113 [19,20,21],ex 22 0,ex 22 1]++s0 (sr 1 6 23)++sq 7 [mv 24])) .ret)))
theorem V0:kG Tryz.prog 63 UF 25 [.cell 6 1 true,.tmp 7]:=mf Tryz.func63 Tryz.ntmps63
def rA(sig:fN)(p:fN)(t:fN):Option (fO×Bool):=
 (lB sig p).bind fun r=>
 if r=true then
  (lB sig t).bind fun r_1=>
  if r_1=true then
   (pH sig p t).bind fun r_2=>
   some r_2
  else
   some ([],false)
 else
  some ([],false)
instance KP{sig:fN}{p:fN}{t:fN}:gP (rA sig p t) fun rr=>rW Tryz.prog 63 [gE sig,(gu 1 iD) p,(gu 1 iD) t] [g_ rr.1,bD rr.2]:=⟨@fun rr h=>by
 delta rA at h;refine V0.uA (gr ?_);delta UF;refine gW ?_;exact mj⟩
def Us:gB:=
 (.seq (.gv (sq 3 [bo 3 27 0]++sq 6 [mb false])) (.seq (.gv (sq 10 [la 1 3,mv 1,mv 2,cf 63 [10,11,12]]++sq 9 [mv 13]++sq 14 [ex 9 0,ex 9 1]++sq 7 [.alloc 7 47 [.sl 0 (some true) []]]++s0 (sr 1 7 14)++sq 8 [mv 15])) (.seq (.gv (sq 16 [mv 8]++sq 6 [mv 16])) .ret)))
theorem VN:kG Tryz.prog 29 Us 17 [.tmp 6]:=mf Tryz.func29 Tryz.ntmps29
def nq(sig:fN)(p:fN)(t:fN):Option Bool:=
 (rA sig p t).bind fun r=>
 some r.2
instance HM{sig:fN}{p:fN}{t:fN}:gP (nq sig p t) fun rr=>iw Tryz.prog 29 [gE sig,(gu 1 iD) p,(gu 1 iD) t] (bD rr):=⟨@fun rr h=>by
 delta nq at h;refine VN.iu (gr ?_);delta Us;refine gW ?_;exact mj⟩
end Go.Proofs.YthdnkoejpdcnpaaGreat
