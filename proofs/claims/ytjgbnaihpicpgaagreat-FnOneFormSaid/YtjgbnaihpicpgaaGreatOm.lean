/- A part of the proof about FnOneForm (O4). -/
import Derived.Test.YtjgbnaihpicpgaaGreatOc
import Derived.Test.YtjgbnaihpicpgaaGreatOl
set_option linter.all false
noncomputable section
namespace Go.Proofs.YtjgbnaihpicpgaaGreat
open Go ng
attribute [local irreducible] uh wo vz mL mC ot kQ Be Cb zM Ca zD uj mu og BY iY lg
set_option maxHeartbeats 4000000
set_option maxRecDepth 4000
def mc6:ir:=
 (.seq (.ie (sq 2 [mb false])) (.seq (.ie (sq 3 [mv 0,ln 3,bi .gtr 4 4096]++sq 2 [mv 5])) .ret))
theorem fn6:kS Tryz.prog 6 mc6 6 [.tmp 2]:=mf Tryz.func6 Tryz.ntmps6
def xh(code:gB):Option Bool:=
 some (decide (4096<(code.length:Int)))
instance UD{code:gB}:iU (xh code) fun rr=>jW Tryz.prog 6 [(iq 1 (kD .u8)) code] (bD rr):=⟨@fun rr h=>by
 delta xh at h;refine fn6.jz (ia ?_);delta mc6;refine iR ?_;exact lP⟩
def mc7:ir:=
 (.seq (.ie (sq 4 [.mv (.const (.pointer none))])) (.seq (.ie (sq 7 [mv 0,mv 1,.bin .mul (t0 8) (.const (.int .u64 7919)),mv 0,ln 10,.conv .u64 (t0 11),bn .add 9 12,.build [.sl 0 (some true) [],.lit (.int .i64 0),.lit (.int .u64 0)] [(0,1,(t0 7)),(2,1,(t0 13))],bo 15 72 14]++sq 5 [mv 15])) (.seq (.seq (.ie (sq 6 [mi 0])) (.block 0 (.loop (.seq (.seq (.ie (sq 16 [mv 6,mv 0,ln 17,bn .lss 16 18])) (.cond (t0 19) .skip (.exit 0))) (.seq (.block 1 (.draw (sq 22 [mv 5,mv 5,.mE (t0 23),fa 2 24,ld 25,.bin .mul (t0 26) (.const (.int .u64 1099511628211)),mv 0,mv 6,ix 1 28 29,ld 30,.conv .u64 (t0 31),bn .add 27 32,.bin .add (t0 33) (.const (.int .u64 3)),.mE (t0 22),fa 2 35]++s0 (sr 1 36 34)) [[],[],[1],[2],[3],[4],[],[],[6,7],[8],[9],[5,10],[11],[0,0,1,2,3,4,5,6,7,8,9,10,11,12],[13,0,1,2,3,4,5,6,7,8,9,10,11,12],[14,12,0,1,2,3,4,5,6,7,8,9,10,11,12]])) (.ie (sq 20 [mv 6,bi .add 20 1]++sq 6 [mv 21]))))))) (.seq (.ie (sq 37 [mv 5]++sq 4 [mv 37])) .ret))))
theorem fn7:kS Tryz.prog 7 mc7 38 [.tmp 4]:=mf Tryz.func7 Tryz.ntmps7
def ve(code:gB):gQ->Option (gQ⊕gH)
 |(i,o15)=>
  if(decide (i<(code.length:Int)))=true then
   if 0<=i/\i<(code.length:Int)then
    some (.inl ((IntKind.i64.wrap (i+1)),(IntKind.u64.wrap ((IntKind.u64.wrap ((IntKind.u64.wrap (o15*1099511628211))+(IntKind.u64.wrap (code.getD i.toNat default))))+3))))
   else none
  else
   Option.map Sum.inr (
    some (code,0,o15))
def sv(code:gB)(seed:Int):Option gH:=
 iB (ve code) (0,(IntKind.u64.wrap ((IntKind.u64.wrap (seed*7919))+(IntKind.u64.wrap (code.length:Int)))))
instance SH{code:gB}{seed:Int}:iU (sv code seed) fun rr=>iH Tryz.prog 7 [.d (iq 1 (kD .u8) code),.d (.lit (.int .u64 seed))] [] 0 fun xx ss=>xx=.ptr 15 0/\ss=[(15,.obj 72 [.d (iq 1 (kD .u8) rr.1),.d (iD rr.2.1),.d (.lit (.int .u64 rr.2.2))])]:=⟨@fun rr h=>by
 delta sv at h;refine fn7.kL (ia ?_);delta mc7;refine iR ?_;refine kA h [6,16,17,18,19,20,21,22,23,24,25,26,27,28,29,30,31,32,33,34,35,36] (fun pp=>[(6,.d (iD pp.1))]) (fun pp=>[(15,.obj 72 [.d (iq 1 (kD .u8) code),.d (iD 0),.d (.lit (.int .u64 pp.2))])]) ?_;rintro⟨i,o15⟩ t1 h hb1;unfold ve at h;try dsimp only at h
 refine ia (iR ?_);exact lP⟩
def XW:ir:=
 (.seq (.ie (sq 0 [.alloc 0 29 [.sl 0 (some true) []]])) (.seq (.ie (sq 1 [.mD 1 2 1 [(i0 2),(i0 1),(i0 0)],.build [.sl 0 (some true) []] [(0,1,(t0 1))]]++s0 (sr 1 0 2))) .ret))
theorem Zq:kS Tryz.prog 38 XW 3 [.cell 0 1 true]:=mf Tryz.func38 Tryz.ntmps38
def nY:Option gB:=
 some [2,1,0]
instance Qw:iU (nY) fun rr=>jW Tryz.prog 38 [] (jy rr):=⟨@fun rr h=>by
 delta nY at h;refine Zq.jz (ia ?_);delta XW;refine iR ?_;exact lP⟩
def XX:ir:=
 (.seq (.ie (sq 4 [mi 0])) (.seq (.ie (sq 6 [mv 0,mv 0,.mE (t0 7),fa 2 8,ld 9,.bin .mul (t0 10) (.const (.int .u64 6364136223846793005)),.bin .add (t0 11) (.const (.int .u64 1442695040888963407)),.mE (t0 6),fa 2 13]++s0 (sr 1 14 12))) (.seq (.ie (sq 15 [mv 0,.mE (t0 15),fa 2 16,ld 17,.bin .shr (t0 18) (.const (.int .u64 33)),.bin .and (t0 19) (.const (.int .u64 16777215)),.conv .i64 (t0 20)]++sq 5 [mv 21])) (.seq (.seq (.draw (sq 22 [mv 0,.mE (t0 22),fa 1 23,ld 24,mv 0,.mE (t0 26),fa 0 27,ld 28,ln 29,bn .lss 25 30]) [[],[0],[1],[2],[],[4],[5],[6],[7],[3,8]]) (.cond (t0 31) (.seq (.draw (sq 32 [mv 5,mv 0,.mE (t0 33),fa 0 34,ld 35,mv 0,.mE (t0 37),fa 1 38,ld 39,ix 1 36 40,ld 41,.conv .i64 (t0 42),bn .add 32 43]++sq 5 [mv 44]) [[],[],[1],[2],[3],[],[5],[6],[7],[4,8],[9],[10],[0,11],[12,0,1,2,3,4,5,6,7,8,9,10,11,12]]) (.ie (sq 45 [mv 0,mv 0,.mE (t0 46),fa 1 47,ld 48,bi .add 49 1,.mE (t0 45),fa 1 51]++s0 (sr 1 52 50)))) .skip)) (.seq (.ie (sq 53 [mv 5,mv 1,bn .rem 53 54]++sq 4 [mv 55])) .ret)))))
theorem Zr:kS Tryz.prog 39 XX 56 [.tmp 4]:=mf Tryz.func39 Tryz.ntmps39
def iJ(n:Int)(d0:gB)(d1:Int)(d2:Int):Option gL:=
 if(decide (d1<(d0.length:Int)))=true then
  if 0<=d1/\d1<(d0.length:Int)then
   if n≠0 then
    some (((IntKind.i64.wrap ((IntKind.i64.wrap (D8 .u64 (Hi .u64 (IntKind.u64.wrap ((IntKind.u64.wrap (d2*6364136223846793005))+1442695040888963407)) 33) 16777215))+(IntKind.i64.wrap (d0.getD d1.toNat default)))).tmod n),(IntKind.i64.wrap (d1+1)),(IntKind.u64.wrap ((IntKind.u64.wrap (d2*6364136223846793005))+1442695040888963407)))
   else none
  else none
 else
  if n≠0 then
   some (((IntKind.i64.wrap (D8 .u64 (Hi .u64 (IntKind.u64.wrap ((IntKind.u64.wrap (d2*6364136223846793005))+1442695040888963407)) 33) 16777215)).tmod n),d1,(IntKind.u64.wrap ((IntKind.u64.wrap (d2*6364136223846793005))+1442695040888963407)))
  else none
instance JJ{n:Int}{d0:gB}{d1:Int}{d2:Int}:iU (iJ n d0 d1 d2) fun rr=>iH Tryz.prog 39 [.ptr 0 0,.d (iD n)] [(0,.obj 72 [.d (iq 1 (kD .u8) d0),.d (iD d1),.d (.lit (.int .u64 d2))])] 1 fun xx ss=>xx=.d (iD rr.1)/\ss=[(0,.obj 72 [.d (iq 1 (kD .u8) d0),.d (iD rr.2.1),.d (.lit (.int .u64 rr.2.2))])]:=⟨@fun rr h=>by
 delta iJ at h;refine Zr.kL (ia ?_);delta XX;refine iR ?_;exact lP⟩
def XY:ir:=
 (.seq (.ie (sq 2 [.mv (.const (.slice none 0 0))])) (.seq (.seq (.ie (sq 3 [mv 0])) (.block 0 (.seq (.ie (sq 5 [bi .eql 3 0]++sq 4 [mv 5])) (.cond (t0 4) (.seq (.ie (sq 6 [.mD 6 2 1 [(i0 0),(i0 2),(i0 (-1))],.mD 7 2 1 [(i0 (-1))],.build [.sl 0 (some true) [],.sl 0 (some true) []] [(0,1,(t0 6)),(1,1,(t0 7))],.mD 9 2 1 [(i0 0),(i0 1),(i0 (-1)),(i0 (-2))],.mD 10 2 1 [(i0 1),(i0 0),(i0 (-1)),(i0 (-2))],.build [.sl 0 (some true) [],.sl 0 (some true) []] [(0,1,(t0 9)),(1,1,(t0 10))],.mD 12 77 2 [(t0 8),(t0 11)]]++sq 2 [mv 12])) .ret) (.seq (.ie (sq 14 [bi .eql 3 1]++sq 13 [mv 14])) (.cond (t0 13) (.seq (.ie (sq 15 [.mD 15 2 1 [(i0 0),(i0 0),(i0 (-1)),(i0 (-2)),(i0 (-3))],.mD 16 2 1 [(i0 0),(i0 (-1)),(i0 0),(i0 (-2)),(i0 (-3))],.build [.sl 0 (some true) [],.sl 0 (some true) []] [(0,1,(t0 15)),(1,1,(t0 16))],.mD 18 77 2 [(t0 17)]]++sq 2 [mv 18])) .ret) (.seq (.ie (sq 20 [bi .eql 3 2]++sq 19 [mv 20])) (.cond (t0 19) (.seq (.ie (sq 21 [.mD 21 2 1 [(i0 1),(i0 1),(i0 (-1))],.mD 22 2 1 [(i0 (-1))],.build [.sl 0 (some true) [],.sl 0 (some true) []] [(0,1,(t0 21)),(1,1,(t0 22))],.mD 24 77 2 [(t0 23)]]++sq 2 [mv 24])) .ret) (.seq (.ie (sq 26 [bi .eql 3 3]++sq 25 [mv 26])) (.cond (t0 25) (.seq (.ie (sq 27 [.mD 27 2 1 [(i0 0),(i0 (-1)),(i0 2)],.mD 28 2 1 [(i0 (-1))],.build [.sl 0 (some true) [],.sl 0 (some true) []] [(0,1,(t0 27)),(1,1,(t0 28))],.mD 30 2 1 [(i0 0),(i0 1),(i0 (-1)),(i0 1),(i0 (-2))],.mD 31 2 1 [(i0 0),(i0 (-1)),(i0 (-2))],.build [.sl 0 (some true) [],.sl 0 (some true) []] [(0,1,(t0 30)),(1,1,(t0 31))],.mD 33 77 2 [(t0 29),(t0 32)]]++sq 2 [mv 33])) .ret) (.seq (.ie (sq 35 [bi .eql 3 4]++sq 34 [mv 35])) (.cond (t0 34) (.seq (.ie (sq 36 [.mD 36 2 1 [(i0 1),(i0 2)],.mD 37 2 1 [(i0 2)],.build [.sl 0 (some true) [],.sl 0 (some true) []] [(0,1,(t0 36)),(1,1,(t0 37))],.mD 39 2 1 [(i0 1),(i0 0),(i0 (-1)),(i0 (-2))],.mD 40 2 1 [(i0 0),(i0 1),(i0 (-2)),(i0 1),(i0 (-1))],.build [.sl 0 (some true) [],.sl 0 (some true) []] [(0,1,(t0 39)),(1,1,(t0 40))],.mD 42 77 2 [(t0 38),(t0 41)]]++sq 2 [mv 42])) .ret) .skip)))))))))))) (.seq (.ie (sq 43 [.mD 43 2 1 [(i0 0),(i0 2),(i0 (-1))],.mD 44 2 1 [(i0 (-1))],.build [.sl 0 (some true) [],.sl 0 (some true) []] [(0,1,(t0 43)),(1,1,(t0 44))],.mD 46 2 1 [(i0 0),(i0 (-1)),(i0 2)],.mD 47 2 1 [(i0 (-1))],.build [.sl 0 (some true) [],.sl 0 (some true) []] [(0,1,(t0 46)),(1,1,(t0 47))],.mD 49 2 1 [(i0 0),(i0 0),(i0 (-1)),(i0 (-2)),(i0 (-3))],.mD 50 2 1 [(i0 0),(i0 (-1)),(i0 0),(i0 (-2)),(i0 (-3))],.build [.sl 0 (some true) [],.sl 0 (some true) []] [(0,1,(t0 49)),(1,1,(t0 50))],.mD 52 77 2 [(t0 45),(t0 48),(t0 51)]]++sq 2 [mv 52])) .ret)))
theorem Zs:kS Tryz.prog 40 XY 53 [.tmp 2]:=mf Tryz.func40 Tryz.ntmps40
def sN(k:Int):Option gI:=
 if(k==0)=true then
  some [([0,2,(-1)],[(-1)]),([0,1,(-1),(-2)],[1,0,(-1),(-2)])]
 else
  if(k==1)=true then
   some [([0,0,(-1),(-2),(-3)],[0,(-1),0,(-2),(-3)])]
  else
   if(k==2)=true then
    some [([1,1,(-1)],[(-1)])]
   else
    if(k==3)=true then
     some [([0,(-1),2],[(-1)]),([0,1,(-1),1,(-2)],[0,(-1),(-2)])]
    else
     if(k==4)=true then
      some [([1,2],[2]),([1,0,(-1),(-2)],[0,1,(-2),1,(-1)])]
     else
      some [([0,2,(-1)],[(-1)]),([0,(-1),2],[(-1)]),([0,0,(-1),(-2),(-3)],[0,(-1),0,(-2),(-3)])]
instance M9{k:Int}:iU (sN k) fun rr=>jW Tryz.prog 40 [iD k] ((iq 2 ic) rr):=⟨@fun rr h=>by
 delta sN at h;refine Zs.jz (ia ?_);delta XY;refine iR ?_;exact lP⟩
theorem Wk:decide ((2:Int)<2)=false:=(rfl)
attribute [go_sem] Wk
def XT:ir:=
 (.seq (.ie (sq 6 [.mv (.const (.slice none 0 0))])) (.seq (.seq (.ie (sq 10 [mv 2,bi .gtr 10 0,mv 11]++sg 12 true 13 [mv 0,.ke 39 [(t0 13),(i0 3)],bi .eql 14 0]++sq 16 [pa 12 15])) (.cond (t0 16) (.seq (.ie (sq 17 [mv 0,mv 2,cf 39 [17,18],.bin .sub (i0 (-1)) (t0 19),.mD 21 2 1 [(t0 20)]]++sq 6 [mv 21])) .ret) .skip)) (.seq (.ie (sq 22 [mv 0,.ke 39 [(t0 22),(i0 3)]]++sq 7 [mv 23])) (.seq (.seq (.ie (sq 24 [mv 1,bi .leq 24 1])) (.cond (t0 25) (.ie (sq 7 [mi 2])) .skip)) (.seq (.ie (sq 26 [mv 7,.mD 27 2 1 [(t0 26)]]++sq 8 [mv 27])) (.seq (.seq (.ie (sq 28 [mv 7]++sq 9 [mv 28])) (.block 0 (.loop (.seq (.seq (.ie (sq 29 [mv 9,bi .lss 29 2])) (.cond (t0 30) .skip (.exit 0))) (.seq (.block 1 (.ie (sq 33 [mv 8,mv 0,mv 1,bi .sub 35 1,mv 2,cf 14 [34,36,37],ap 39 2 1 8 33 38]++sq 8 [mv 39]))) (.ie (sq 31 [mv 9,bi .add 31 1]++sq 9 [mv 32]))))))) (.seq (.ie (sq 40 [mv 8]++sq 6 [mv 40])) .ret)))))))
theorem Zn:kS Tryz.prog 14 XT 41 [.tmp 6]:=mf Tryz.func14 Tryz.ntmps14
def wA(r_2:gL):Unit->Option (Unit⊕gH)
 |_=>
  Option.map Sum.inr (
   some ([2],r_2.2.1,r_2.2.2))
def tO(rec:Int->Int->gB->Int->Int->Option gH)(deep:Int)(vars:Int)(d0:gB):gX->Option (gX⊕gH)
 |(out,k,d,d_1)=>
  if(decide (k<2))=true then
   (rec (IntKind.i64.wrap (deep-1)) vars d0 d d_1).bind fun r_3=>
   if(out.length+r_3.1.length)*8<=140737488355328 then
    some (.inl ((out++r_3.1),(IntKind.i64.wrap (k+1)),r_3.2.1,r_3.2.2))
   else none
  else
   Option.map Sum.inr (
    some (out,d,d_1))
def wB(r_4:gL):Unit->Option (Unit⊕gH)
 |_=>
  Option.map Sum.inr (
   some ([2],r_4.2.1,r_4.2.2))
def wC(rec:Int->Int->gB->Int->Int->Option gH)(deep:Int)(vars:Int)(d0:gB):gX->Option (gX⊕gH)
 |(out_1,k_1,d_2,d_3)=>
  if(decide (k_1<2))=true then
   (rec (IntKind.i64.wrap (deep-1)) vars d0 d_2 d_3).bind fun r_5=>
   if(out_1.length+r_5.1.length)*8<=140737488355328 then
    some (.inl ((out_1++r_5.1),(IntKind.i64.wrap (k_1+1)),r_5.2.1,r_5.2.2))
   else none
  else
   Option.map Sum.inr (
    some (out_1,d_2,d_3))
def lZ:Nat->Int->Int->gB->Int->Int->Option gH
 |0,_,_,_,_,_=>none
 |fu+1,deep,vars,d0,d1,d2=>
  if(decide (0<vars))=true then
   (iJ 3 d0 d1 d2).bind fun r=>
   if(r.1==0)=true then
    (iJ vars d0 r.2.1 r.2.2).bind fun r_1=>
    some ([(IntKind.i64.wrap ((-1)-r_1.1))],r_1.2.1,r_1.2.2)
   else
    (iJ 3 d0 r.2.1 r.2.2).bind fun r_2=>
    if(decide (deep<=1))=true then
     iB (wA r_2) ()
    else
     iB (tO (lZ fu) deep vars d0) ([r_2.1],r_2.1,r_2.2.1,r_2.2.2)
  else
   (iJ 3 d0 d1 d2).bind fun r_4=>
   if(decide (deep<=1))=true then
    iB (wB r_4) ()
   else
    iB (wC (lZ fu) deep vars d0) ([r_4.1],r_4.1,r_4.2.1,r_4.2.2)
def jF(deep:Int)(vars:Int)(d0:gB)(d1:Int)(d2:Int):Option gH:=AL fun fu=>lZ fu deep vars d0 d1 d2
theorem zE:∀{fu:Nat}{deep:Int}{vars:Int}{d0:gB}{d1:Int}{d2:Int}{rr:gH}(h:lZ fu deep vars d0 d1 d2=some rr),iH Tryz.prog 14 [.ptr 0 0,.d (iD deep),.d (iD vars)] [(0,.obj 72 [.d (iq 1 (kD .u8) d0),.d (iD d1),.d (.lit (.int .u64 d2))])] 1 fun xx ss=>xx=.d (iq 1 iD rr.1)/\ss=[(0,.obj 72 [.d (iq 1 (kD .u8) d0),.d (iD rr.2.1),.d (.lit (.int .u64 rr.2.2))])]
 |0,_,_,_,_,_,_,h=>by cases h
 |fu+1,deep,vars,d0,d1,d2,rr,h=>by
  have ih:∀{deep:Int}{vars:Int}{d0:gB}{d1:Int}{d2:Int},iU (lZ fu deep vars d0 d1 d2) fun rr=>iH Tryz.prog 14 [.ptr 0 0,.d (iD deep),.d (iD vars)] [(0,.obj 72 [.d (iq 1 (kD .u8) d0),.d (iD d1),.d (.lit (.int .u64 d2))])] 1 fun xx ss=>xx=.d (iq 1 iD rr.1)/\ss=[(0,.obj 72 [.d (iq 1 (kD .u8) d0),.d (iD rr.2.1),.d (.lit (.int .u64 rr.2.2))])]:=⟨fun h=>zE h⟩
  unfold lZ at h;refine Zn.kL (ia ?_);delta XT;refine iR ?_;refine it h (fun hc h=>?_) fun hc h=>?_
  ·refine qC [(0,0)] [] h fun r hr h=>?_
   refine it h (fun hc h=>?_) fun hc h=>?_
   ·refine qC [(0,0)] [] h fun r_1 hr_1 h=>?_
    cases h;exact⟨[21],by simp,lM,lM⟩
   refine qC [(0,0)] [] h fun r_2 hr_2 h=>?_
   refine it h (fun hc h=>?_) fun hc h=>?_
   ·refine kA h [8,9,29,30,31,32,33,34,35,36,37,38,39] (fun pp=>[(8,.own 1 27 (List.map iD [2])),(9,.d (iD 2))]) (fun pp=>[(0,.obj 72 [.d (iq 1 (kD .u8) d0),.d (iD r_2.2.1),.d (.lit (.int .u64 r_2.2.2))]),(27,.tok 2 1 1)]) ?_;rintro _ t1 h hb1;unfold wA at h;try dsimp only at h
    refine ia (iR ?_);replace h:=jf h hb1;cases h;exact⟨[27],by simp,lM,lM⟩
   refine kA h [8,9,29,30,31,32,33,34,35,36,37,38,39] (fun pp=>[(8,.own 1 27 (List.map iD pp.1)),(9,.d (iD pp.2.1))]) (fun pp=>[(0,.obj 72 [.d (iq 1 (kD .u8) d0),.d (iD pp.2.2.1),.d (.lit (.int .u64 pp.2.2.2))]),(27,.tok 2 1 pp.1.length)]) ?_;rintro⟨out,k,d,d_1⟩ t1 h hb1;unfold tO at h;try dsimp only at h
   refine ia (iR ?_);refine it h (fun hc h=>?_) fun hc h=>?_
   ·refine qC [(0,0)] [] h fun r_3 hr_3 h=>?_
    exact lP
   replace h:=jf h hb1;cases h;exact⟨[27],by simp,lM,lM⟩
  refine qC [(0,0)] [] h fun r_4 hr_4 h=>?_
  refine it h (fun hc h=>?_) fun hc h=>?_
  ·refine kA h [8,9,29,30,31,32,33,34,35,36,37,38,39] (fun pp=>[(8,.own 1 27 (List.map iD [2])),(9,.d (iD 2))]) (fun pp=>[(0,.obj 72 [.d (iq 1 (kD .u8) d0),.d (iD r_4.2.1),.d (.lit (.int .u64 r_4.2.2))]),(27,.tok 2 1 1)]) ?_;rintro _ t1 h hb1;unfold wB at h;try dsimp only at h
   refine ia (iR ?_);replace h:=jf h hb1;cases h;exact⟨[27],by simp,lM,lM⟩
  refine kA h [8,9,29,30,31,32,33,34,35,36,37,38,39] (fun pp=>[(8,.own 1 27 (List.map iD pp.1)),(9,.d (iD pp.2.1))]) (fun pp=>[(0,.obj 72 [.d (iq 1 (kD .u8) d0),.d (iD pp.2.2.1),.d (.lit (.int .u64 pp.2.2.2))]),(27,.tok 2 1 pp.1.length)]) ?_;rintro⟨out_1,k_1,d_2,d_3⟩ t1 h hb1;unfold wC at h;try dsimp only at h
  refine ia (iR ?_);refine it h (fun hc h=>?_) fun hc h=>?_
  ·refine qC [(0,0)] [] h fun r_5 hr_5 h=>?_
   exact lP
  replace h:=jf h hb1;cases h;exact⟨[27],by simp,lM,lM⟩
instance JK{deep:Int}{vars:Int}{d0:gB}{d1:Int}{d2:Int}:iU (jF deep vars d0 d1 d2) fun rr=>iH Tryz.prog 14 [.ptr 0 0,.d (iD deep),.d (iD vars)] [(0,.obj 72 [.d (iq 1 (kD .u8) d0),.d (iD d1),.d (.lit (.int .u64 d2))])] 1 fun xx ss=>xx=.d (iq 1 iD rr.1)/\ss=[(0,.obj 72 [.d (iq 1 (kD .u8) d0),.d (iD rr.2.1),.d (.lit (.int .u64 rr.2.2))])]:=⟨fun h=>zE (qO h).choose_spec⟩
def TC:ir:=
 (.seq (.ie (sq 4 [.mv (.const (.slice none 0 0))])) (.seq (.ie (sq 5 [mi 0])) (.seq (.block 0 (.loop (.seq (.seq (.ie (sq 7 [mv 5,mv 0,ln 8,bn .lss 7 9,mv 10]++sg 11 true 12 [mv 0,mv 5,ix 1 12 13,ld 14,mv 1,bn .lss 15 16]++sq 18 [pa 11 17])) (.cond (t0 18) .skip (.exit 0))) (.block 1 (.ie (sq 19 [mv 5,bi .add 19 1]++sq 5 [mv 20])))))) (.seq (.seq (.ie (sq 21 [mv 5,mv 0,ln 22,bn .lss 21 23,mv 24]++sg 25 true 26 [mv 0,mv 5,ix 1 26 27,ld 28,mv 1,bn .eql 29 30]++sq 32 [pa 25 31])) (.cond (t0 32) (.seq (.ie (sq 33 [mv 0]++sq 4 [mv 33])) .ret) .skip)) (.seq (.ie (sq 34 [mv 0,mv 5,.slc (t0 34) 1 none (some (t0 35)) none,cf 53 [36],mv 1,.mD 39 2 1 [(t0 38)],ap 40 2 1 8 37 39]++sq 6 [mv 40])) (.seq (.ie (sq 41 [mv 6,mv 0,mv 5,.slc (t0 42) 1 (some (t0 43)) none none,ap 45 2 1 8 41 44]++sq 4 [mv 45])) .ret))))))
theorem Xf:kS Tryz.prog 197 TC 46 [.tmp 4]:=mf Tryz.func197 Tryz.ntmps197
def tP(list:gB)(n:Int):Int->Option (Int⊕gB)
 |k=>
  if(decide (k<(list.length:Int)))=true then
   if 0<=k/\k<(list.length:Int)then
    if(decide ((list.getD k.toNat default)<n))=true then
     some (.inl (IntKind.i64.wrap (k+1)))
    else
     Option.map Sum.inr (
      if(decide (k<(list.length:Int)))=true then
       if 0<=k/\k<(list.length:Int)then
        if((list.getD k.toNat default)==n)=true then
         some list
        else
         if 0<=k/\k<=(list.length:Int)then
          (jK (list.take k.toNat)).bind fun r=>
          if(r.length+1)*8<=140737488355328 then
           if 0<=k/\k<=(list.length:Int)then
            if((r++[n]).length+(list.drop k.toNat).length)*8<=140737488355328 then
             some ((r++[n])++(list.drop k.toNat))
            else none
           else none
          else none
         else none
       else none
      else
       if 0<=k/\k<=(list.length:Int)then
        (jK (list.take k.toNat)).bind fun r_1=>
        if(r_1.length+1)*8<=140737488355328 then
         if 0<=k/\k<=(list.length:Int)then
          if((r_1++[n]).length+(list.drop k.toNat).length)*8<=140737488355328 then
           some ((r_1++[n])++(list.drop k.toNat))
          else none
         else none
        else none
       else none)
   else none
  else
   Option.map Sum.inr (
    if(decide (k<(list.length:Int)))=true then
     if 0<=k/\k<(list.length:Int)then
      if((list.getD k.toNat default)==n)=true then
       some list
      else
       if 0<=k/\k<=(list.length:Int)then
        (jK (list.take k.toNat)).bind fun r_2=>
        if(r_2.length+1)*8<=140737488355328 then
         if 0<=k/\k<=(list.length:Int)then
          if((r_2++[n]).length+(list.drop k.toNat).length)*8<=140737488355328 then
           some ((r_2++[n])++(list.drop k.toNat))
          else none
         else none
        else none
       else none
     else none
    else
     if 0<=k/\k<=(list.length:Int)then
      (jK (list.take k.toNat)).bind fun r_3=>
      if(r_3.length+1)*8<=140737488355328 then
       if 0<=k/\k<=(list.length:Int)then
        if((r_3++[n]).length+(list.drop k.toNat).length)*8<=140737488355328 then
         some ((r_3++[n])++(list.drop k.toNat))
        else none
       else none
      else none
     else none)
def rF(list:gB)(n:Int):Option gB:=
 iB (tP list n) 0
instance PW{list:gB}{n:Int}:iU (rF list n) fun rr=>jW Tryz.prog 197 [(iq 1 iD) list,iD n] ((iq 1 iD) rr):=⟨@fun rr h=>by
 delta rF at h;refine Xf.jz (ia ?_);delta TC;refine iR ?_;refine kA h [5,7,8,9,10,11,12,13,14,15,16,17,18,19,20] (fun pp=>[(5,.d (iD pp))]) (fun pp=>[]) ?_;rintro k t1 h hb1;unfold tP at h;try dsimp only at h
 refine ia (iR ?_);refine it h (fun hc h=>?_) fun hc h=>?_
 ·refine kz h fun hp h=>?_
  refine iF h fun hc h=>?_
  replace h:=jf h hb1;refine it h (fun hc h=>?_) fun hc h=>?_
  ·refine kz h fun hp h=>?_
   refine iF h fun hc h=>?_
   refine kz h fun hp h=>?_
   refine qC [] [(3,37)] h fun r hr h=>?_
   exact lP
  refine kz h fun hp h=>?_
  refine qC [] [(3,37)] h fun r_1 hr_1 h=>?_
  exact lP
 replace h:=jf h hb1;refine it h (fun hc h=>?_) fun hc h=>?_
 ·refine kz h fun hp h=>?_
  refine iF h fun hc h=>?_
  refine kz h fun hp h=>?_
  refine qC [] [(3,37)] h fun r_2 hr_2 h=>?_
  exact lP
 refine kz h fun hp h=>?_
 refine qC [] [(3,37)] h fun r_3 hr_3 h=>?_
 exact lP⟩
def Th:ir:=
 (.seq (.ie (sq 2 [.mv (.const (.slice none 0 0))])) (.seq (.ie (sq 5 [.mD 5 2 1 []]++sq 3 [mv 5])) (.seq (.seq (.ie (sq 4 [mi 0])) (.block 0 (.loop (.seq (.seq (.ie (sq 6 [mv 4,mv 0,ln 7,bn .lss 6 8])) (.cond (t0 9) .skip (.exit 0))) (.seq (.block 1 (.seq (.ie (sq 12 [mv 0,mv 4,ix 1 12 13,ld 14,bi .lss 15 0])) (.cond (t0 16) (.ie (sq 17 [mv 3,mv 0,mv 4,ix 1 18 19,ld 20,.bin .sub (i0 (-1)) (t0 21),cf 197 [17,22]]++sq 3 [mv 23])) .skip))) (.ie (sq 10 [mv 4,bi .add 10 1]++sq 4 [mv 11]))))))) (.seq (.ie (sq 24 [mv 3]++sq 2 [mv 24])) .ret))))
theorem WN:kS Tryz.prog 153 Th 25 [.tmp 2]:=mf Tryz.func153 Tryz.ntmps153
def tQ(t:gB):gU->Option (gU⊕gB)
 |(out,i)=>
  if(decide (i<(t.length:Int)))=true then
   if 0<=i/\i<(t.length:Int)then
    if(decide ((t.getD i.toNat default)<0))=true then
     if 0<=i/\i<(t.length:Int)then
      (rF out (IntKind.i64.wrap ((-1)-(t.getD i.toNat default)))).bind fun r=>
      some (.inl (r,(IntKind.i64.wrap (i+1))))
     else none
    else
     some (.inl (out,(IntKind.i64.wrap (i+1))))
   else none
  else
   Option.map Sum.inr (
    some out)
def tY(t:gB):Option gB:=
 iB (tQ t) ([],0)
instance PX{t:gB}:iU (tY t) fun rr=>jW Tryz.prog 153 [(iq 1 iD) t] ((iq 1 iD) rr):=⟨@fun rr h=>by
 delta tY at h;refine WN.jz (ia ?_);delta Th;refine iR ?_;refine kA h [3,4,6,7,8,9,10,11,12,13,14,15,16,17,18,19,20,21,22,23] (fun pp=>[(3,.d (iq 1 iD pp.1)),(4,.d (iD pp.2))]) (fun pp=>[(5,.tok 2 1 0)]) ?_;rintro⟨out,i⟩ t1 h hb1;unfold tQ at h;try dsimp only at h
 refine ia (iR ?_);exact lP⟩
def Yj:ir:=
 (.seq (.ie (sq 2 [bo 2 29 0]++sq 4 [.mv (.const (.slice none 0 0))])) (.seq (.seq (.ie (sq 5 [la 1 2,mv 1,cf 120 [5,6],nt 7])) (.cond (t0 8) (.seq (.ie (sq 9 [.mD 9 2 1 []]++sq 4 [mv 9])) .ret) .skip)) (.seq (.ie (sq 10 [mv 1,cf 153 [10]]++sq 4 [mv 11])) .ret)))
theorem ZN:kS Tryz.prog 88 Yj 12 [.tmp 4]:=mf Tryz.func88 Tryz.ntmps88
def pY(sig:gB)(t:gB):Option gB:=
 (mW sig t).bind fun r=>
 if r=true then
  (tY t).bind fun r_1=>
  some r_1
 else
  some []
instance PR{sig:gB}{t:gB}:iU (pY sig t) fun rr=>jW Tryz.prog 88 [jy sig,(iq 1 iD) t] ((iq 1 iD) rr):=⟨@fun rr h=>by
 delta pY at h;refine ZN.jz (ia ?_);delta Yj;refine iR ?_;exact lP⟩
def uL:ir:=
 (.seq (.ie (sq 6 [.mv (.const (.slice none 0 0))])) (.seq (.seq (.ie (sq 10 [mv 2,bi .gtr 10 0,mv 11]++sg 12 true 13 [mv 0,.ke 39 [(t0 13),(i0 3)],bi .eql 14 0]++sq 16 [pa 12 15])) (.cond (t0 16) (.seq (.ie (sq 17 [mv 0,mv 2,cf 39 [17,18],.bin .sub (i0 (-1)) (t0 19),.zu 21 2 1 [(t0 20)]]++sq 6 [mv 21])) .ret) .skip)) (.seq (.ie (sq 22 [mv 0,.ke 39 [(t0 22),(i0 3)]]++sq 7 [mv 23])) (.seq (.seq (.ie (sq 24 [mv 1,bi .leq 24 1])) (.cond (t0 25) (.ie (sq 7 [mi 2])) .skip)) (.seq (.ie (sq 26 [mv 7,.zu 27 2 1 [(t0 26)]]++sq 8 [mv 27])) (.seq (.seq (.ie (sq 28 [mv 7]++sq 9 [mv 28])) (.block 0 (.loop (.seq (.seq (.ie (sq 29 [mv 9,bi .lss 29 2])) (.cond (t0 30) .skip (.exit 0))) (.seq (.block 1 (.ie (sq 33 [mv 8,mv 0,mv 1,bi .sub 35 1,mv 2,cf 14 [34,36,37],ap 39 2 1 8 33 38]++sq 8 [mv 39]))) (.ie (sq 31 [mv 9,bi .add 31 1]++sq 9 [mv 32]))))))) (.seq (.ie (sq 40 [mv 8]++sq 6 [mv 40])) .ret)))))))
theorem zw:kS Tryz.prog 14 uL 41 [.tmp 6]:=mf Tryz.func14 Tryz.ntmps14
def uG(r_2:gL):Unit->Option (Unit⊕gH)
 |_=>
  Option.map Sum.inr (
   some ([2],r_2.2.1,r_2.2.2))
def q_(deep:Int)(vars:Int)(d0:gB):gS->Option (gS⊕gH)
 |(k,d,d_1,g27)=>
  if(decide (k<2))=true then
   (jF (IntKind.i64.wrap (deep-1)) vars d0 d d_1).bind fun r_3=>
   if(g27.length+r_3.1.length)*8<=140737488355328 then
    some (.inl ((IntKind.i64.wrap (k+1)),r_3.2.1,r_3.2.2,(g27++r_3.1)))
   else none
  else
   Option.map Sum.inr (
    some (g27,d,d_1))
def uH(r_4:gL):Unit->Option (Unit⊕gH)
 |_=>
  Option.map Sum.inr (
   some ([2],r_4.2.1,r_4.2.2))
def uI(deep:Int)(vars:Int)(d0:gB):gS->Option (gS⊕gH)
 |(k_1,d_2,d_3,g27_1)=>
  if(decide (k_1<2))=true then
   (jF (IntKind.i64.wrap (deep-1)) vars d0 d_2 d_3).bind fun r_5=>
   if(g27_1.length+r_5.1.length)*8<=140737488355328 then
    some (.inl ((IntKind.i64.wrap (k_1+1)),r_5.2.1,r_5.2.2,(g27_1++r_5.1)))
   else none
  else
   Option.map Sum.inr (
    some (g27_1,d_2,d_3))
def oF:Nat->Int->Int->gB->Int->Int->Option gH
 |0,_,_,_,_,_=>none
 |fu+1,deep,vars,d0,d1,d2=>
  if(decide (0<vars))=true then
   (iJ 3 d0 d1 d2).bind fun r=>
   if(r.1==0)=true then
    (iJ vars d0 r.2.1 r.2.2).bind fun r_1=>
    some ([(IntKind.i64.wrap ((-1)-r_1.1))],r_1.2.1,r_1.2.2)
   else
    (iJ 3 d0 r.2.1 r.2.2).bind fun r_2=>
    if(decide (deep<=1))=true then
     iB (uG r_2) ()
    else
     iB (q_ deep vars d0) (r_2.1,r_2.2.1,r_2.2.2,[r_2.1])
  else
   (iJ 3 d0 d1 d2).bind fun r_4=>
   if(decide (deep<=1))=true then
    iB (uH r_4) ()
   else
    iB (uI deep vars d0) (r_4.1,r_4.2.1,r_4.2.2,[r_4.1])
def nZ(deep:Int)(vars:Int)(d0:gB)(d1:Int)(d2:Int):Option gH:=AL fun fu=>oF fu deep vars d0 d1 d2
theorem wE:∀{fu:Nat}{deep:Int}{vars:Int}{d0:gB}{d1:Int}{d2:Int}{rr:gH}(h:oF fu deep vars d0 d1 d2=some rr),iH Tryz.prog 14 [.ptr 0 0,.d (iD deep),.d (iD vars)] [(0,.obj 72 [.d (iq 1 (kD .u8) d0),.d (iD d1),.d (.lit (.int .u64 d2))])] 1 fun xx ss=>xx=.mX 1 900000 rr.1.length/\ss=[(0,.obj 72 [.d (iq 1 (kD .u8) d0),.d (iD rr.2.1),.d (.lit (.int .u64 rr.2.2))]),(900000,.kU 2 1 rr.1.length (kT iD rr.1))]
 |0,_,_,_,_,_,_,h=>by cases h
 |fu+1,deep,vars,d0,d1,d2,rr,h=>by
  have ih:∀{deep:Int}{vars:Int}{d0:gB}{d1:Int}{d2:Int},iU (oF fu deep vars d0 d1 d2) fun rr=>iH Tryz.prog 14 [.ptr 0 0,.d (iD deep),.d (iD vars)] [(0,.obj 72 [.d (iq 1 (kD .u8) d0),.d (iD d1),.d (.lit (.int .u64 d2))])] 1 fun xx ss=>xx=.mX 1 900000 rr.1.length/\ss=[(0,.obj 72 [.d (iq 1 (kD .u8) d0),.d (iD rr.2.1),.d (.lit (.int .u64 rr.2.2))]),(900000,.kU 2 1 rr.1.length (kT iD rr.1))]:=⟨fun h=>wE h⟩
  unfold oF at h;refine zw.If (ia ?_);delta uL;refine iR ?_;refine it h (fun hc h=>?_) fun hc h=>?_
  ·refine qC [(0,0)] [] h fun r hr h=>?_
   refine it h (fun hc h=>?_) fun hc h=>?_
   ·refine qC [(0,0)] [] h fun r_1 hr_1 h=>?_
    cases h;exact jA.trans ((jA.move 21 900000 (ob:=.kU 2 1 1 (kT iD [(IntKind.i64.wrap ((-1)-r_1.1))])) h_ h_ h_ rfl (by first|rfl|(simp;done)|(simp[sat,vV,sset,jD,zA,wZ,Ob.lq,Ob.kill,sd];done)))) (jA.told Ee lM)
   refine qC [(0,0)] [] h fun r_2 hr_2 h=>?_
   refine it h (fun hc h=>?_) fun hc h=>?_
   ·refine kA h [8,9,29,30,31,32,33,34,35,36,37,38,39] (fun pp=>[(8,.mX 1 27 1),(9,.d (iD 2))]) (fun pp=>[(0,.obj 72 [.d (iq 1 (kD .u8) d0),.d (iD r_2.2.1),.d (.lit (.int .u64 r_2.2.2))]),(27,.kU 2 1 1 (kT iD [2]))]) ?_;rintro _ t1 h hb1;unfold uG at h;try dsimp only at h
    refine ia (iR ?_);replace h:=jf h hb1;cases h;exact jA.trans ((jA.move 27 900000 (ob:=.kU 2 1 1 (kT iD [2])) h_ h_ h_ rfl (by first|rfl|(simp;done)|(simp[sat,vV,sset,jD,zA,wZ,Ob.lq,Ob.kill,sd];done)))) (jA.told Ee lM)
   refine kA h [8,9,29,30,31,32,33,34,35,36,37,38,39] (fun pp=>[(8,.mX 1 27 pp.2.2.2.length),(9,.d (iD pp.1))]) (fun pp=>[(0,.obj 72 [.d (iq 1 (kD .u8) d0),.d (iD pp.2.1),.d (.lit (.int .u64 pp.2.2.1))]),(27,.kU 2 1 pp.2.2.2.length (kT iD pp.2.2.2))]) ?_;rintro⟨k,d,d_1,g27⟩ t1 h hb1;unfold q_ at h;try dsimp only at h
   refine ia (iR ?_);refine it h (fun hc h=>?_) fun hc h=>?_
   ·refine qC [(0,0)] [] h fun r_3 hr_3 h=>?_
    exact lP
   replace h:=jf h hb1;cases h;exact jA.trans ((jA.move 27 900000 (ob:=.kU 2 1 g27.length (kT iD g27)) h_ h_ h_ rfl (by first|rfl|(simp;done)|(simp[sat,vV,sset,jD,zA,wZ,Ob.lq,Ob.kill,sd];done)))) (jA.told Ee lM)
  refine qC [(0,0)] [] h fun r_4 hr_4 h=>?_
  refine it h (fun hc h=>?_) fun hc h=>?_
  ·refine kA h [8,9,29,30,31,32,33,34,35,36,37,38,39] (fun pp=>[(8,.mX 1 27 1),(9,.d (iD 2))]) (fun pp=>[(0,.obj 72 [.d (iq 1 (kD .u8) d0),.d (iD r_4.2.1),.d (.lit (.int .u64 r_4.2.2))]),(27,.kU 2 1 1 (kT iD [2]))]) ?_;rintro _ t1 h hb1;unfold uH at h;try dsimp only at h
   refine ia (iR ?_);replace h:=jf h hb1;cases h;exact jA.trans ((jA.move 27 900000 (ob:=.kU 2 1 1 (kT iD [2])) h_ h_ h_ rfl (by first|rfl|(simp;done)|(simp[sat,vV,sset,jD,zA,wZ,Ob.lq,Ob.kill,sd];done)))) (jA.told Ee lM)
  refine kA h [8,9,29,30,31,32,33,34,35,36,37,38,39] (fun pp=>[(8,.mX 1 27 pp.2.2.2.length),(9,.d (iD pp.1))]) (fun pp=>[(0,.obj 72 [.d (iq 1 (kD .u8) d0),.d (iD pp.2.1),.d (.lit (.int .u64 pp.2.2.1))]),(27,.kU 2 1 pp.2.2.2.length (kT iD pp.2.2.2))]) ?_;rintro⟨k_1,d_2,d_3,g27_1⟩ t1 h hb1;unfold uI at h;try dsimp only at h
  refine ia (iR ?_);refine it h (fun hc h=>?_) fun hc h=>?_
  ·refine qC [(0,0)] [] h fun r_5 hr_5 h=>?_
   exact lP
  replace h:=jf h hb1;cases h;exact jA.trans ((jA.move 27 900000 (ob:=.kU 2 1 g27_1.length (kT iD g27_1)) h_ h_ h_ rfl (by first|rfl|(simp;done)|(simp[sat,vV,sset,jD,zA,wZ,Ob.lq,Ob.kill,sd];done)))) (jA.told Ee lM)
instance Gc{deep:Int}{vars:Int}{d0:gB}{d1:Int}{d2:Int}:iU (nZ deep vars d0 d1 d2) fun rr=>iH Tryz.prog 14 [.ptr 0 0,.d (iD deep),.d (iD vars)] [(0,.obj 72 [.d (iq 1 (kD .u8) d0),.d (iD d1),.d (.lit (.int .u64 d2))])] 1 fun xx ss=>xx=.mX 1 900000 rr.1.length/\ss=[(0,.obj 72 [.d (iq 1 (kD .u8) d0),.d (iD rr.2.1),.d (.lit (.int .u64 rr.2.2))]),(900000,.kU 2 1 rr.1.length (kT iD rr.1))]:=⟨fun h=>wE (qO h).choose_spec⟩
def XZ:ir:=
 (.seq (.ie (sq 2 [.alloc 2 77 [.sl 0 (some true) [],.sl 0 (some true) []]])) (.seq (.ie (sq 7 [.mD 7 2 1 [(i0 1)],mv 0,.ke 14 [(t0 8),(i0 2),(i0 2)],ap 10 2 1 8 7 9]++sq 3 [mv 10])) (.seq (.seq (.ie (sq 11 [mv 0,.ke 39 [(t0 11),(i0 2)],bi .eql 12 0])) (.cond (t0 13) (.ie (sq 14 [.mD 14 2 1 [(i0 0)],mv 0,.ke 14 [(t0 15),(i0 2),(i0 2)],ap 17 2 1 8 14 16,mv 0,.ke 14 [(t0 18),(i0 1),(i0 2)],ap 20 2 1 8 17 19]++sq 3 [mv 20])) .skip)) (.seq (.ie (sq 21 [cf 38 [],mv 3,cf 88 [21,22]]++sq 4 [mv 23])) (.seq (.ie (sq 24 [mv 0,.ke 14 [(t0 24),(i0 3),(i0 2)]]++sq 5 [mv 25])) (.seq (.seq (.ie (sq 6 [mi 0])) (.block 0 (.loop (.seq (.seq (.ie (sq 26 [mv 6,mv 5,ln 27,bn .lss 26 28])) (.cond (t0 29) .skip (.exit 0))) (.seq (.block 1 (.seq (.ie (sq 32 [mv 5,mv 6,ix 1 32 33,ld 34,bi .lss 35 0,mv 36]++sg 37 true 38 [mv 4,ln 38,bi .eql 39 0]++sq 41 [pa 37 40])) (.cond (t0 41) (.ie (sq 42 [mv 5,mv 6,ix 1 42 43]++s0 (.store 1 (t0 44) (i0 2)))) (.seq (.ie (sq 45 [mv 5,mv 6,ix 1 45 46,ld 47,bi .lss 48 0])) (.cond (t0 49) (.ie (sq 50 [mv 5,mv 6,mv 4,mv 0,mv 4,ln 54,cf 39 [53,55],ix 1 52 56,ld 57,.bin .sub (i0 (-1)) (t0 58),ix 1 50 51]++s0 (sr 1 60 59))) .skip))))) (.ie (sq 30 [mv 6,bi .add 30 1]++sq 6 [mv 31]))))))) (.seq (.ie (sq 61 [mv 3,mv 5,.build [.sl 0 (some true) [],.sl 0 (some true) []] [(0,1,(t0 61)),(1,1,(t0 62))]]++s0 (sr 2 2 63))) .ret)))))))
theorem Zt:kS Tryz.prog 41 XZ 64 [.cell 2 2 true]:=mf Tryz.func41 Tryz.ntmps41
def qI(d0:gB)(r_2:gH)(r_3:gH)(r_5:gB):gS->Option (gS⊕(gD×Int×Int))
 |(i,d,d_1,g25)=>
  if(decide (i<(g25.length:Int)))=true then
   if 0<=i/\i<(g25.length:Int)then
    if(decide ((g25.getD i.toNat default)<0))=true then
     if((r_5.length:Int)==0)=true then
      if 0<=i/\i<(g25.length:Int)then
       some (.inl ((IntKind.i64.wrap (i+1)),d,d_1,(g25.set i.toNat 2)))
      else none
     else
      if 0<=i/\i<(g25.length:Int)then
       if(decide ((g25.getD i.toNat default)<0))=true then
        (iJ (r_5.length:Int) d0 d d_1).bind fun r_7=>
        if 0<=r_7.1/\r_7.1<(r_5.length:Int)then
         if 0<=i/\i<(g25.length:Int)then
          some (.inl ((IntKind.i64.wrap (i+1)),r_7.2.1,r_7.2.2,(g25.set i.toNat (IntKind.i64.wrap ((-1)-(r_5.getD r_7.1.toNat default))))))
         else none
        else none
       else
        some (.inl ((IntKind.i64.wrap (i+1)),d,d_1,g25))
      else none
    else
     if 0<=i/\i<(g25.length:Int)then
      if(decide ((g25.getD i.toNat default)<0))=true then
       (iJ (r_5.length:Int) d0 d d_1).bind fun r_8=>
       if 0<=r_8.1/\r_8.1<(r_5.length:Int)then
        if 0<=i/\i<(g25.length:Int)then
         some (.inl ((IntKind.i64.wrap (i+1)),r_8.2.1,r_8.2.2,(g25.set i.toNat (IntKind.i64.wrap ((-1)-(r_5.getD r_8.1.toNat default))))))
        else none
       else none
      else
       some (.inl ((IntKind.i64.wrap (i+1)),d,d_1,g25))
     else none
   else none
  else
   Option.map Sum.inr (
    some (((([0]++r_2.1)++r_3.1),g25),d,d_1))
def qJ(d0:gB)(r:gH)(r_10:gB):gS->Option (gS⊕(gD×Int×Int))
 |(i_1,d_2,d_3,g25_1)=>
  if(decide (i_1<(g25_1.length:Int)))=true then
   if 0<=i_1/\i_1<(g25_1.length:Int)then
    if(decide ((g25_1.getD i_1.toNat default)<0))=true then
     if((r_10.length:Int)==0)=true then
      if 0<=i_1/\i_1<(g25_1.length:Int)then
       some (.inl ((IntKind.i64.wrap (i_1+1)),d_2,d_3,(g25_1.set i_1.toNat 2)))
      else none
     else
      if 0<=i_1/\i_1<(g25_1.length:Int)then
       if(decide ((g25_1.getD i_1.toNat default)<0))=true then
        (iJ (r_10.length:Int) d0 d_2 d_3).bind fun r_12=>
        if 0<=r_12.1/\r_12.1<(r_10.length:Int)then
         if 0<=i_1/\i_1<(g25_1.length:Int)then
          some (.inl ((IntKind.i64.wrap (i_1+1)),r_12.2.1,r_12.2.2,(g25_1.set i_1.toNat (IntKind.i64.wrap ((-1)-(r_10.getD r_12.1.toNat default))))))
         else none
        else none
       else
        some (.inl ((IntKind.i64.wrap (i_1+1)),d_2,d_3,g25_1))
      else none
    else
     if 0<=i_1/\i_1<(g25_1.length:Int)then
      if(decide ((g25_1.getD i_1.toNat default)<0))=true then
       (iJ (r_10.length:Int) d0 d_2 d_3).bind fun r_13=>
       if 0<=r_13.1/\r_13.1<(r_10.length:Int)then
        if 0<=i_1/\i_1<(g25_1.length:Int)then
         some (.inl ((IntKind.i64.wrap (i_1+1)),r_13.2.1,r_13.2.2,(g25_1.set i_1.toNat (IntKind.i64.wrap ((-1)-(r_10.getD r_13.1.toNat default))))))
        else none
       else none
      else
       some (.inl ((IntKind.i64.wrap (i_1+1)),d_2,d_3,g25_1))
     else none
   else none
  else
   Option.map Sum.inr (
    some ((([1]++r.1),g25_1),d_2,d_3))
def rB(d0:gB)(d1:Int)(d2:Int):Option (gD×Int×Int):=
 (jF 2 2 d0 d1 d2).bind fun r=>
 if(1+r.1.length)*8<=140737488355328 then
  (iJ 2 d0 r.2.1 r.2.2).bind fun r_1=>
  if(r_1.1==0)=true then
   (jF 2 2 d0 r_1.2.1 r_1.2.2).bind fun r_2=>
   if(1+r_2.1.length)*8<=140737488355328 then
    (jF 1 2 d0 r_2.2.1 r_2.2.2).bind fun r_3=>
    if(([0]++r_2.1).length+r_3.1.length)*8<=140737488355328 then
     (nY).bind fun r_4=>
     (pY r_4 (([0]++r_2.1)++r_3.1)).bind fun r_5=>
     (nZ 3 2 d0 r_3.2.1 r_3.2.2).bind fun r_6=>
     iB (qI d0 r_2 r_3 r_5) (0,r_6.2.1,r_6.2.2,r_6.1)
    else none
   else none
  else
   (nY).bind fun r_9=>
   (pY r_9 ([1]++r.1)).bind fun r_10=>
   (nZ 3 2 d0 r_1.2.1 r_1.2.2).bind fun r_11=>
   iB (qJ d0 r r_10) (0,r_11.2.1,r_11.2.2,r_11.1)
 else none
instance PL{d0:gB}{d1:Int}{d2:Int}:iU (rB d0 d1 d2) fun rr=>iH Tryz.prog 41 [.ptr 0 0] [(0,.obj 72 [.d (iq 1 (kD .u8) d0),.d (iD d1),.d (.lit (.int .u64 d2))])] 1 fun xx ss=>xx=.d (.agg [iq 1 iD rr.1.1,iq 1 iD rr.1.2])/\ss=[(0,.obj 72 [.d (iq 1 (kD .u8) d0),.d (iD rr.2.1),.d (.lit (.int .u64 rr.2.2))])]:=⟨@fun rr h=>by
 delta rB at h;refine Zt.If (ia ?_);delta XZ;refine iR ?_;refine qC [(0,0)] [] h fun r hr h=>?_
 refine kz h fun hp h=>?_
 refine qC [(0,0)] [] h fun r_1 hr_1 h=>?_
 refine it h (fun hc h=>?_) fun hc h=>?_
 ·refine qC [(0,0)] [] h fun r_2 hr_2 h=>?_
  refine kz h fun hp h=>?_
  refine qC [(0,0)] [] h fun r_3 hr_3 h=>?_
  refine kz h fun hp h=>?_
  refine rC h fun r_4 hr_4 h=>?_
  refine rC h fun r_5 hr_5 h=>?_
  refine qC [(0,0)] [(900000,25)] h fun r_6 hr_6 h=>?_
  refine kA h [5,6,26,27,28,29,30,31,32,33,34,35,36,37,38,39,40,41,42,43,44,45,46,47,48,49,50,51,52,53,54,55,56,57,58,59,60] (fun pp=>[(6,.d (iD pp.1)),(5,.mX 1 25 pp.2.2.2.length)]) (fun pp=>[(0,.obj 72 [.d (iq 1 (kD .u8) d0),.d (iD pp.2.1),.d (.lit (.int .u64 pp.2.2.1))]),(2,.obj 77 [.d (.sl 0 (some true) []),.d (.sl 0 (some true) [])]),(7,.tok 2 1 (([1]++r.1).length)),(14,.tok 2 1 ((([0]++r_2.1)++r_3.1).length)),(25,.kU 2 1 pp.2.2.2.length (kT iD pp.2.2.2))]) ?_;rintro⟨i,d,d_1,g25⟩ t1 h hb1;unfold qI at h;try dsimp only at h
  refine ia (iR ?_);refine it h (fun hc h=>?_) fun hc h=>?_
  ·refine kz h fun hp h=>?_
   refine qa ?_;refine it h (fun hc h=>?_) fun hc h=>?_
   ·refine iF h fun hc h=>?_
    refine kz h fun hp h=>?_
    refine qa ?_;refine iT h fun hc h=>?_
    refine qC [(0,0)] [] h fun r_7 hr_7 h=>?_
    exact lP
   refine kz h fun hp h=>?_
   refine qa ?_;refine iT h fun hc1 h=>?_
   exact absurd hc1 (by rw[hc];decide)
  replace h:=jf h hb1;cases h;exact jA.trans ((jA.trans (jA.fz 25 iD rfl g25) (jA.zG [2,7,14] (by simp)))) (jA.told Ee lM)
 refine rC h fun r_9 hr_9 h=>?_
 refine rC h fun r_10 hr_10 h=>?_
 refine qC [(0,0)] [(900000,25)] h fun r_11 hr_11 h=>?_
 refine kA h [5,6,26,27,28,29,30,31,32,33,34,35,36,37,38,39,40,41,42,43,44,45,46,47,48,49,50,51,52,53,54,55,56,57,58,59,60] (fun pp=>[(6,.d (iD pp.1)),(5,.mX 1 25 pp.2.2.2.length)]) (fun pp=>[(0,.obj 72 [.d (iq 1 (kD .u8) d0),.d (iD pp.2.1),.d (.lit (.int .u64 pp.2.2.1))]),(2,.obj 77 [.d (.sl 0 (some true) []),.d (.sl 0 (some true) [])]),(7,.tok 2 1 (([1]++r.1).length)),(25,.kU 2 1 pp.2.2.2.length (kT iD pp.2.2.2))]) ?_;rintro⟨i_1,d_2,d_3,g25_1⟩ t1 h hb1;unfold qJ at h;try dsimp only at h
 refine ia (iR ?_);refine it h (fun hc h=>?_) fun hc h=>?_
 ·refine kz h fun hp h=>?_
  refine qa ?_;refine it h (fun hc h=>?_) fun hc h=>?_
  ·refine iF h fun hc h=>?_
   refine kz h fun hp h=>?_
   refine qa ?_;refine iT h fun hc h=>?_
   refine qC [(0,0)] [] h fun r_12 hr_12 h=>?_
   exact lP
  refine kz h fun hp h=>?_
  refine qa ?_;refine iT h fun hc1 h=>?_
  exact absurd hc1 (by rw[hc];decide)
 replace h:=jf h hb1;cases h;exact jA.trans ((jA.trans (jA.fz 25 iD rfl g25_1) (jA.zG [2,7] (by simp)))) (jA.told Ee lM)⟩
def mc8:ir:=
 (.seq (.ie (sq 2 [.alloc 2 32 [.sl 0 (some true) [],.sl 0 (some true) []]])) (.seq (.ie (sq 5 [cf 38 [],.build [.sl 0 (some true) [],.sl 0 (some true) []] [(0,1,(t0 5))]]++sq 3 [.alloc 3 32 [.sl 0 (some true) [],.sl 0 (some true) []]]++s0 (sr 2 3 6))) (.seq (.seq (.ie (sq 7 [mv 0,.ke 39 [(t0 7),(i0 2)],bi .eql 8 0])) (.cond (t0 9) (.seq (.ie (sq 10 [mv 0,.ke 39 [(t0 10),(i0 6)],cf 40 [11],fa 1 3]++s0 (sr 1 13 12))) (.seq (.ie (sq 14 [la 2 3]++s0 (sr 2 2 14))) .ret)) .skip)) (.seq (.seq (.ie (sq 15 [mv 0,.ke 39 [(t0 15),(i0 3)],.bin .add (i0 1) (t0 16)]++sq 4 [mv 17])) (.block 0 (.loop (.seq (.seq (.ie (sq 18 [mv 4,bi .gtr 18 0])) (.cond (t0 19) .skip (.exit 0))) (.seq (.block 1 (.draw (sq 22 [fa 1 3,ld 22,mv 0,cf 41 [24],.mD 26 77 2 [(t0 25)],ap 27 77 2 48 23 26,fa 1 3]++s0 (sr 1 28 27)) [[],[0],[],[2],[3],[1,4,3],[0,1,2,3,4,5],[6,5,5,0,1,2,3,4,5]])) (.ie (sq 20 [mv 4,bi .sub 20 1]++sq 4 [mv 21]))))))) (.seq (.ie (sq 29 [la 2 3]++s0 (sr 2 2 29))) .ret)))))
theorem fn8:kS Tryz.prog 8 mc8 30 [.cell 2 2 true]:=mf Tryz.func8 Tryz.ntmps8
def rX(d0:gB)(r:gB):(Int×Int×Int×gI)->Option ((Int×Int×Int×gI)⊕(gR×Int×Int))
 |(k,d,d_1,sys)=>
  if(decide (0<k))=true then
   (rB d0 d d_1).bind fun r_5=>
   if(sys.length+1)*48<=140737488355328 then
    some (.inl ((IntKind.i64.wrap (k-1)),r_5.2.1,r_5.2.2,(sys++[r_5.1])))
   else none
  else
   Option.map Sum.inr (
    some ((r,sys),d,d_1))
def pR(d0:gB)(d1:Int)(d2:Int):Option (gR×Int×Int):=
 (nY).bind fun r=>
 (iJ 2 d0 d1 d2).bind fun r_1=>
 if(r_1.1==0)=true then
  (iJ 6 d0 r_1.2.1 r_1.2.2).bind fun r_2=>
  (sN r_2.1).bind fun r_3=>
  some ((r,r_3),r_2.2.1,r_2.2.2)
 else
  (iJ 3 d0 r_1.2.1 r_1.2.2).bind fun r_4=>
  iB (rX d0 r) ((IntKind.i64.wrap (1+r_4.1)),r_4.2.1,r_4.2.2,[])
instance Mp{d0:gB}{d1:Int}{d2:Int}:iU (pR d0 d1 d2) fun rr=>iH Tryz.prog 8 [.ptr 0 0] [(0,.obj 72 [.d (iq 1 (kD .u8) d0),.d (iD d1),.d (.lit (.int .u64 d2))])] 1 fun xx ss=>xx=.d (.agg [iq 1 iD rr.1.1,iq 2 ic rr.1.2])/\ss=[(0,.obj 72 [.d (iq 1 (kD .u8) d0),.d (iD rr.2.1),.d (.lit (.int .u64 rr.2.2))])]:=⟨@fun rr h=>by
 delta pR at h;refine fn8.kL (ia ?_);delta mc8;refine iR ?_;refine rC h fun r hr h=>?_
 refine qC [(0,0)] [] h fun r_1 hr_1 h=>?_
 refine it h (fun hc h=>?_) fun hc h=>?_
 ·refine qC [(0,0)] [] h fun r_2 hr_2 h=>?_
  refine rC h fun r_3 hr_3 h=>?_
  cases h;exact⟨[2,3],by simp,lM,lM⟩
 refine qC [(0,0)] [] h fun r_4 hr_4 h=>?_
 refine xA h [4,18,19,20,21,22,23,24,25,26,27,28] (fun pp=>[(4,.d (iD pp.1))]) (fun pp=>[(0,.obj 72 [.d (iq 1 (kD .u8) d0),.d (iD pp.2.1),.d (.lit (.int .u64 pp.2.2.1))]),(2,.obj 32 [.d (.sl 0 (some true) []),.d (.sl 0 (some true) [])]),(3,.obj 32 [.d (iq 1 iD r),.own 2 27 (List.map ic pp.2.2.2)]),(27,.tok 77 2 pp.2.2.2.length)]) ?_ ?_
 ·try dsimp only
  refine(iV.A8 3 1 27 77 2 rfl rfl rfl).trans ?_;exact wk
 rintro⟨k,d,d_1,sys⟩ t1 h hb1;unfold rX at h;try dsimp only at h
 refine ia (iR ?_);refine it h (fun hc h=>?_) fun hc h=>?_
 ·refine ND [(0,0)] [] h fun r_5 hr_5 h=>?_
  refine kz h fun hp h=>?_
  refine jM (by kernel_rfl) (iR ?_);cases h;refine⟨_,rfl,?_⟩;refine(iV.drop 26 h_).trans ?_;exact wk
 replace h:=jf h hb1;cases h;exact⟨[2,3,27],by simp,lM,lM⟩⟩
def mc3:ir:=
 (.seq (.ie (sq 2 [mb false])) (.seq (.seq (.ie (sq 5 [mv 0,cf 6 [5]])) (.cond (t0 6) (.seq (.ie (sq 2 [mb true])) .ret) .skip)) (.seq (.ie (sq 7 [mv 0,.ke 7 [(t0 7),(.const (.int .u64 955))]]++sq 3 [mv 8])) (.seq (.ie (sq 9 [mv 3,cf 8 [9]]++sq 4 [.alloc 4 32 [.sl 0 (some true) [],.sl 0 (some true) []]]++s0 (sr 2 4 10))) (.seq (.seq (.ie (sq 11 [la 2 4,cf 9 [11],mv 12]++sg 13 true 14 [la 2 4,cf 10 [14],nt 15]++sq 17 [pa 13 16,mv 17]++sg 18 false 19 [la 2 4,cf 10 [19],mv 20]++sg 21 true 22 [la 2 4,cf 11 [22],nt 23]++sg 18 false 25 [pa 21 24]++sq 26 [po 18 25])) (.cond (t0 26) (.seq (.ie (sq 2 [mb false])) .ret) .skip)) (.seq (.seq (.draw (sq 27 [la 2 4,cf 11 [27],la 2 4,cf 12 [29],.D_ true (t0 28) (t0 30)]) [[],[0],[],[2,1],[1,3]]) (.cond (t0 31) (.seq (.ie (sq 2 [mb false])) .ret) .skip)) (.seq (.draw (sq 32 [la 2 4,cf 11 [32],nt 33,mv 34]++sg 35 false 36 [la 2 4,mv 3,.ke 14 [(t0 37),(i0 3),(i0 1)],.ke 13 [(t0 36),(t0 38),(i0 5)],ln 39,bi .leq 40 1]++sq 42 [po 35 41]++sq 2 [mv 42]) [[],[0],[1],[2,1],[3],[3],[5,3,3],[4,6,6,3],[7,3],[8,3],[3,9],[10,7,0,1,2,3,4,5,6,7,8,9,10]]) .ret)))))))
theorem fn3:kS Tryz.prog 3 mc3 43 [.tmp 2]:=mf Tryz.func3 Tryz.ntmps3
def qH(code:gB):Option Bool:=
 (xh code).bind fun r=>
 if r=true then
  some true
 else
  (sv code 955).bind fun r_1=>
  (pR r_1.1 r_1.2.1 r_1.2.2).bind fun r_2=>
  (mM r_2.1).bind fun r_3=>
  if r_3=true then
   (mH r_2.1).bind fun r_4=>
   if r_4=true then
    (mH r_2.1).bind fun r_5=>
    if r_5=true then
     (jE r_2.1).bind fun r_6=>
     if r_6=true then
      (jE r_2.1).bind fun r_7=>
      (lI r_2.1).bind fun r_8=>
      if(r_7 != r_8)=true then
       some false
      else
       (jE r_2.1).bind fun r_9=>
       if r_9=true then
        (jF 3 1 r_1.1 r_2.2.1 r_2.2.2).bind fun r_10=>
        (kZ r_2.1 r_10.1 5).bind fun r_11=>
        some (decide ((r_11.length:Int)<=1))
       else
        some true
     else
      some false
    else
     (jE r_2.1).bind fun r_12=>
     (lI r_2.1).bind fun r_13=>
     if(r_12 != r_13)=true then
      some false
     else
      (jE r_2.1).bind fun r_14=>
      if r_14=true then
       (jF 3 1 r_1.1 r_2.2.1 r_2.2.2).bind fun r_15=>
       (kZ r_2.1 r_15.1 5).bind fun r_16=>
       some (decide ((r_16.length:Int)<=1))
      else
       some true
   else
    some false
  else
   (mH r_2.1).bind fun r_17=>
   if r_17=true then
    (jE r_2.1).bind fun r_18=>
    if r_18=true then
     (jE r_2.1).bind fun r_19=>
     (lI r_2.1).bind fun r_20=>
     if(r_19 != r_20)=true then
      some false
     else
      (jE r_2.1).bind fun r_21=>
      if r_21=true then
       (jF 3 1 r_1.1 r_2.2.1 r_2.2.2).bind fun r_22=>
       (kZ r_2.1 r_22.1 5).bind fun r_23=>
       some (decide ((r_23.length:Int)<=1))
      else
       some true
    else
     some false
   else
    (jE r_2.1).bind fun r_24=>
    (lI r_2.1).bind fun r_25=>
    if(r_24 != r_25)=true then
     some false
    else
     (jE r_2.1).bind fun r_26=>
     if r_26=true then
      (jF 3 1 r_1.1 r_2.2.1 r_2.2.2).bind fun r_27=>
      (kZ r_2.1 r_27.1 5).bind fun r_28=>
      some (decide ((r_28.length:Int)<=1))
     else
      some true
instance Bt{code:gB}:iU (qH code) fun rr=>jW Tryz.prog 3 [(iq 1 (kD .u8)) code] (bD rr):=⟨@fun rr h=>by
 delta qH at h;refine fn3.jz (ia ?_);delta mc3;refine iR ?_;refine rC h fun r hr h=>?_
 refine iF h fun hc h=>?_
 refine qC [] [(15,8)] h fun r_1 hr_1 h=>?_
 refine qC [(0,8)] [] h fun r_2 hr_2 h=>?_
 refine rC h fun r_3 hr_3 h=>?_
 refine it h (fun hc h=>?_) fun hc h=>?_
 ·refine rC h fun r_4 hr_4 h=>?_
  refine iT h fun hc h=>?_
  refine rC h fun r_5 hr_5 h=>?_
  refine it h (fun hc h=>?_) fun hc h=>?_
  ·refine rC h fun r_6 hr_6 h=>?_
   refine iT h fun hc h=>?_
   refine dC h fun r_7 hr_7 h=>?_
   refine dC h fun r_8 hr_8 h=>?_
   refine jM (by kernel_rfl) (iR ?_);refine iF h fun hc h=>?_
   refine dC h fun r_9 hr_9 h=>?_
   refine iT h fun hc h=>?_
   refine ND [(0,8)] [] h fun r_10 hr_10 h=>?_
   exact lP
  refine dC h fun r_12 hr_12 h=>?_
  refine dC h fun r_13 hr_13 h=>?_
  refine jM (by kernel_rfl) (iR ?_);refine iF h fun hc h=>?_
  refine dC h fun r_14 hr_14 h=>?_
  refine iT h fun hc h=>?_
  refine ND [(0,8)] [] h fun r_15 hr_15 h=>?_
  exact lP
 refine rC h fun r_17 hr_17 h=>?_
 refine it h (fun hc h=>?_) fun hc h=>?_
 ·refine rC h fun r_18 hr_18 h=>?_
  refine iT h fun hc h=>?_
  refine dC h fun r_19 hr_19 h=>?_
  refine dC h fun r_20 hr_20 h=>?_
  refine jM (by kernel_rfl) (iR ?_);refine iF h fun hc h=>?_
  refine dC h fun r_21 hr_21 h=>?_
  refine iT h fun hc h=>?_
  refine ND [(0,8)] [] h fun r_22 hr_22 h=>?_
  exact lP
 refine dC h fun r_24 hr_24 h=>?_
 refine dC h fun r_25 hr_25 h=>?_
 refine jM (by kernel_rfl) (iR ?_);refine iF h fun hc h=>?_
 refine dC h fun r_26 hr_26 h=>?_
 refine iT h fun hc h=>?_
 refine ND [(0,8)] [] h fun r_27 hr_27 h=>?_
 exact lP⟩
end Go.Proofs.YtjgbnaihpicpgaaGreat
