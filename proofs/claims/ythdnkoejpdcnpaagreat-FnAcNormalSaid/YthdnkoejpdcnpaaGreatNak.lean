/- A part of the proof about FnAcNormal and about FnAcSteps (D1). -/
import Derived.Test.YthdnkoejpdcnpaaGreatNad
import Derived.Test.YthdnkoejpdcnpaaGreatNag
import Derived.Test.YthdnkoejpdcnpaaGreatNah
set_option linter.all false
noncomputable section
namespace Go.Proofs.YthdnkoejpdcnpaaGreat
open Go kI
attribute [local irreducible] sO uf uc lu kf pG iV xm xQ wz xP wu pY kr lq xO ia jN
set_option maxHeartbeats 4000000
set_option maxRecDepth 4000
def Sx:gH:=
 (.seq (.gD (sq 3 [bo 3 27 0]++sq 6 [.alloc 6 47 [.sl 0 (some true) []],mb false])) (.seq (.gD (sq 13 [.za 13 22 1 24 [.sl 0 (some true) []] false (i0 24) (i0 24),.build [.sl 0 (some true) []] [(0,1,(t0 13))]]++sq 8 [.alloc 8 47 [.sl 0 (some true) []]]++s0 (sr 1 8 14))) (.seq (.gD (sq 9 [mi 0])) (.seq (.seq (.gD (sq 10 [mi 0])) (.block 0 (.loop (.seq (.seq (.gD (sq 15 [mv 10,mv 1,ln 16,bn .lss 15 17])) (.cond (t0 18) .skip (.exit 0))) (.seq (.block 1 (.seq (.seq (.gD (sq 21 [mv 9,mv 2,ln 22,bn .geq 21 23])) (.cond (t0 24) (.seq (.gD (sq 25 [.build [.sl 0 (some true) []] []]++s0 (sr 1 6 25)++sq 7 [mb false])) .ret) .skip)) (.seq (.seq (.gD (sq 26 [mv 1,mv 10,ix 1 26 27,ld 28,bi .geq 29 0])) (.cond (t0 30) (.seq (.seq (.draw (sq 31 [mv 1,mv 10,ix 1 31 32,ld 33,mv 2,mv 9,ix 1 35 36,ld 37,bn .neq 34 38]) [[],[],[0,1],[2],[],[],[4,5],[6],[3,7]]) (.cond (t0 39) (.seq (.gD (sq 40 [.build [.sl 0 (some true) []] []]++s0 (sr 1 6 40)++sq 7 [mb false])) .ret) .skip)) (.seq (.gD (sq 41 [mv 9,bi .add 41 1]++sq 9 [mv 42])) (.exit 1))) .skip)) (.seq (.gD (sq 43 [la 1 3,mv 2,mv 9,cf 112 [43,44,45]]++sq 11 [mv 46])) (.seq (.draw (sq 47 [fa 0 8,ld 47,mv 1,mv 10,ix 1 49 50,ld 51,.bin .sub (i0 (-1)) (t0 52),ix 1 48 53,ld 54]++sq 12 [mv 55]) [[],[0],[],[],[2,3],[4],[5],[1,6],[7],[8,0,1,2,3,4,5,6,7,8]]) (.seq (.seq (.gD (sq 56 [mv 12,ln 56,bi .gtr 57 0,mv 58]++sg 59 true 60 [mv 12,mv 11,cf 48 [60,61],nt 62]++sq 64 [pa 59 63])) (.cond (t0 64) (.seq (.gD (sq 65 [.build [.sl 0 (some true) []] []]++s0 (sr 1 6 65)++sq 7 [mb false])) .ret) .skip)) (.seq (.draw (sq 66 [fa 0 8,ld 66,mv 1,mv 10,ix 1 68 69,ld 70,.bin .sub (i0 (-1)) (t0 71),mv 11,ix 1 67 72]++s0 (sr 1 74 73)) [[],[0],[],[],[2,3],[4],[5],[],[1,6,0,1,2,3,4,5,6,7],[8,7,0,1,2,3,4,5,6,7]]) (.gD (sq 75 [mv 9,mv 11,ln 76,bn .add 75 77]++sq 9 [mv 78]))))))))) (.gD (sq 19 [mv 10,bi .add 19 1]++sq 10 [mv 20]))))))) (.seq (.gD (sq 79 [la 1 8,cf 85 [79]]++s0 (sr 1 6 80)++sq 7 [mb true])) .ret)))))
theorem Wg:jT Tryz.prog 113 Sx 81 [.cell 6 1 true,.tmp 7]:=mf Tryz.func113 Tryz.ntmps113
def tP(sig:fP)(p:fP)(t:fP):(Int×Int×fQ)->Option ((Int×Int×fQ)⊕gh)
 |(k,i,l13)=>
  if(decide (i<(p.length:Int)))=true then
   if(decide ((t.length:Int)<=k))=true then
    Option.map Sum.inr (
     some ([],false))
   else
    if 0<=i/\i<(p.length:Int)then
     if(decide (0<=(p.getD i.toNat default)))=true then
      if 0<=i/\i<(p.length:Int)then
       if 0<=k/\k<(t.length:Int)then
        if((p.getD i.toNat default) != (t.getD k.toNat default))=true then
         Option.map Sum.inr (
          some ([],false))
        else
         some (.inl ((IntKind.i64.wrap (k+1)),(IntKind.i64.wrap (i+1)),l13))
       else none
      else none
     else
      (jX sig t k).bind fun r=>
      if 0<=i/\i<(p.length:Int)then
       if 0<=(IntKind.i64.wrap ((-1)-(p.getD i.toNat default)))/\(IntKind.i64.wrap ((-1)-(p.getD i.toNat default)))<(24:Int)/\(IntKind.i64.wrap ((-1)-(p.getD i.toNat default)))<(l13.length:Int)then
        if(decide (0<((l13.getD (IntKind.i64.wrap ((-1)-(p.getD i.toNat default))).toNat default).length:Int)))=true then
         (jM (l13.getD (IntKind.i64.wrap ((-1)-(p.getD i.toNat default))).toNat default) r).bind fun r_1=>
         if r_1=true then
          if 0<=i/\i<(p.length:Int)then
           if 0<=(IntKind.i64.wrap ((-1)-(p.getD i.toNat default)))/\(IntKind.i64.wrap ((-1)-(p.getD i.toNat default)))<(24:Int)/\(IntKind.i64.wrap ((-1)-(p.getD i.toNat default)))<(l13.length:Int)then
            some (.inl ((IntKind.i64.wrap (k+(r.length:Int))),(IntKind.i64.wrap (i+1)),(l13.set (IntKind.i64.wrap ((-1)-(p.getD i.toNat default))).toNat r)))
           else none
          else none
         else
          Option.map Sum.inr (
           some ([],false))
        else
         if 0<=i/\i<(p.length:Int)then
          if 0<=(IntKind.i64.wrap ((-1)-(p.getD i.toNat default)))/\(IntKind.i64.wrap ((-1)-(p.getD i.toNat default)))<(24:Int)/\(IntKind.i64.wrap ((-1)-(p.getD i.toNat default)))<(l13.length:Int)then
           some (.inl ((IntKind.i64.wrap (k+(r.length:Int))),(IntKind.i64.wrap (i+1)),(l13.set (IntKind.i64.wrap ((-1)-(p.getD i.toNat default))).toNat r)))
          else none
         else none
       else none
      else none
    else none
  else
   Option.map Sum.inr (
    if l13.length=24 then
     (pg l13).bind fun r_2=>
     some (r_2,true)
    else none)
def qD(sig:fP)(p:fP)(t:fP):Option gh:=
 gK (tP sig p t) (0,0,(List.replicate 24 []))
instance Na{sig:fP}{p:fP}{t:fP}:gW (qD sig p t) fun rr=>pn Tryz.prog 113 [gQ sig,(gE 1 iD) p,(gE 1 iD) t] [jJ rr.1,bD rr.2]:=⟨@fun rr h=>by
 delta qD at h;refine Wg.qn (gC ?_);delta Sx;refine g_ ?_;refine Eg ?_;refine jk h [7,9,10,11,12,15,16,17,18,19,20,21,22,23,24,25,26,27,28,29,30,31,32,33,34,35,36,37,38,39,40,41,42,43,44,45,46,47,48,49,50,51,52,53,54,55,56,57,58,59,60,61,62,63,64,65,66,67,68,69,70,71,72,73,74,75,76,77,78] (fun pp=>[(9,.d (iD pp.1)),(10,.d (iD pp.2.1))]) (fun pp=>[(3,.obj 27 [.d (gE 1 iD sig)]),(6,.obj 47 [.d (.sl 0 (some true) [])]),(8,.obj 47 [.nC 1 13 0 24]),(13,.obj 22 (List.map (aD (gE 1 iD)) pp.2.2))]) ?_;rintro⟨k,i,l13⟩ t1 h hb1;unfold tP at h;try dsimp only at h
 refine gC (g_ ?_);refine iF h fun hc h=>?_
 replace h:=gY h hb1;refine iU h fun hp h=>?_
 refine Ab 13 (gE 1 iD) l13 gB rfl (fun _=>rfl) (g_ ?_);refine rC h fun r_2 hr_2 h=>?_
 exact mm⟩
end Go.Proofs.YthdnkoejpdcnpaaGreat
