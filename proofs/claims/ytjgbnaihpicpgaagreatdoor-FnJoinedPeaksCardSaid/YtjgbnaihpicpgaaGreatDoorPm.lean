/- A part of the proof about FnJoinedPeaks (Q4). -/
import Derived.Test.YtjgbnaihpicpgaaGreatDoorPc
import Derived.Test.YtjgbnaihpicpgaaGreatDoorPl
set_option linter.all false
noncomputable section
namespace Go.Proofs.YtjgbnaihpicpgaaGreatDoor
open Go mm
attribute [local irreducible] rj vP uV mz lN nj kj Au Bm zm Bl yp tF lM nc AJ iS kN
set_option maxHeartbeats 4000000
set_option maxRecDepth 4000
def Ya:ie:=
 (.seq (.h_ (sq 0 [.alloc 0 30 [.sl 0 (some true) []]])) (.seq (.h_ (sq 1 [.mP 1 2 1 [(i0 2),(i0 1),(i0 0)],.build [.sl 0 (some true) []] [(0,1,(t0 1))]]++s0 (sr 1 0 2))) .ret))
theorem ZV:kH Tryz.prog 41 Ya 3 [.cell 0 1 true]:=mf Tryz.func41 Tryz.ntmps41
def oq:Option gv:=
 some [2,1,0]
instance QM:iR (oq) fun rr=>jU Tryz.prog 41 [] (jd rr):=⟨@fun rr h=>by
 delta oq at h;refine ZV.jC (gZ ?_);delta Ya;refine iN ?_;exact mA⟩
def XY:ie:=
 (.seq (.h_ (sq 4 [mi 0])) (.seq (.h_ (sq 6 [mv 0,mv 0,.me (t0 7),fa 2 8,ld 9,.bin .mul (t0 10) (.const (.int .u64 6364136223846793005)),.bin .add (t0 11) (.const (.int .u64 1442695040888963407)),.me (t0 6),fa 2 13]++s0 (sr 1 14 12))) (.seq (.h_ (sq 15 [mv 0,.me (t0 15),fa 2 16,ld 17,.bin .shr (t0 18) (.const (.int .u64 33)),.bin .and (t0 19) (.const (.int .u64 16777215)),.conv .i64 (t0 20)]++sq 5 [mv 21])) (.seq (.seq (.draw (sq 22 [mv 0,.me (t0 22),fa 1 23,ld 24,mv 0,.me (t0 26),fa 0 27,ld 28,ln 29,bn .lss 25 30]) [[],[0],[1],[2],[],[4],[5],[6],[7],[3,8]]) (.cond (t0 31) (.seq (.draw (sq 32 [mv 5,mv 0,.me (t0 33),fa 0 34,ld 35,mv 0,.me (t0 37),fa 1 38,ld 39,ix 1 36 40,ld 41,.conv .i64 (t0 42),bn .add 32 43]++sq 5 [mv 44]) [[],[],[1],[2],[3],[],[5],[6],[7],[4,8],[9],[10],[0,11],[12,0,1,2,3,4,5,6,7,8,9,10,11,12]]) (.h_ (sq 45 [mv 0,mv 0,.me (t0 46),fa 1 47,ld 48,bi .add 49 1,.me (t0 45),fa 1 51]++s0 (sr 1 52 50)))) .skip)) (.seq (.h_ (sq 53 [mv 5,mv 1,bn .rem 53 54]++sq 4 [mv 55])) .ret)))))
theorem ZJ:kH Tryz.prog 14 XY 56 [.tmp 4]:=mf Tryz.func14 Tryz.ntmps14
def iH(n:Int)(d0:gv)(d1:Int)(d2:Int):Option gG:=
 if(decide (d1<(d0.length:Int)))=true then
  if 0<=d1/\d1<(d0.length:Int)then
   if n≠0 then
    some (((IntKind.i64.wrap ((IntKind.i64.wrap (Ee .u64 (Hy .u64 (IntKind.u64.wrap ((IntKind.u64.wrap (d2*6364136223846793005))+1442695040888963407)) 33) 16777215))+(IntKind.i64.wrap (d0.getD d1.toNat default)))).tmod n),(IntKind.i64.wrap (d1+1)),(IntKind.u64.wrap ((IntKind.u64.wrap (d2*6364136223846793005))+1442695040888963407)))
   else none
  else none
 else
  if n≠0 then
   some (((IntKind.i64.wrap (Ee .u64 (Hy .u64 (IntKind.u64.wrap ((IntKind.u64.wrap (d2*6364136223846793005))+1442695040888963407)) 33) 16777215)).tmod n),d1,(IntKind.u64.wrap ((IntKind.u64.wrap (d2*6364136223846793005))+1442695040888963407)))
  else none
instance J0{n:Int}{d0:gv}{d1:Int}{d2:Int}:iR (iH n d0 d1 d2) fun rr=>iC Tryz.prog 14 [.ptr 0 0,.d (iD n)] [(0,.obj 77 [.d (ia 1 (kD .u8) d0),.d (iD d1),.d (.lit (.int .u64 d2))])] 1 fun xx ss=>xx=.d (iD rr.1)/\ss=[(0,.obj 77 [.d (ia 1 (kD .u8) d0),.d (iD rr.2.1),.d (.lit (.int .u64 rr.2.2))])]:=⟨@fun rr h=>by
 delta iH at h;refine ZJ.lO (gZ ?_);delta XY;refine iN ?_;exact mA⟩
def Yb:ie:=
 (.seq (.h_ (sq 2 [.mv (.const (.slice none 0 0))])) (.seq (.seq (.h_ (sq 3 [mv 0])) (.block 0 (.seq (.h_ (sq 5 [bi .eql 3 0]++sq 4 [mv 5])) (.cond (t0 4) (.seq (.h_ (sq 6 [.mP 6 2 1 [(i0 0),(i0 2),(i0 (-1))],.mP 7 2 1 [(i0 (-1))],.build [.sl 0 (some true) [],.sl 0 (some true) []] [(0,1,(t0 6)),(1,1,(t0 7))],.mP 9 2 1 [(i0 0),(i0 1),(i0 (-1)),(i0 (-2))],.mP 10 2 1 [(i0 1),(i0 0),(i0 (-1)),(i0 (-2))],.build [.sl 0 (some true) [],.sl 0 (some true) []] [(0,1,(t0 9)),(1,1,(t0 10))],.mP 12 81 2 [(t0 8),(t0 11)]]++sq 2 [mv 12])) .ret) (.seq (.h_ (sq 14 [bi .eql 3 1]++sq 13 [mv 14])) (.cond (t0 13) (.seq (.h_ (sq 15 [.mP 15 2 1 [(i0 0),(i0 0),(i0 (-1)),(i0 (-2)),(i0 (-3))],.mP 16 2 1 [(i0 0),(i0 (-1)),(i0 0),(i0 (-2)),(i0 (-3))],.build [.sl 0 (some true) [],.sl 0 (some true) []] [(0,1,(t0 15)),(1,1,(t0 16))],.mP 18 81 2 [(t0 17)]]++sq 2 [mv 18])) .ret) (.seq (.h_ (sq 20 [bi .eql 3 2]++sq 19 [mv 20])) (.cond (t0 19) (.seq (.h_ (sq 21 [.mP 21 2 1 [(i0 1),(i0 1),(i0 (-1))],.mP 22 2 1 [(i0 (-1))],.build [.sl 0 (some true) [],.sl 0 (some true) []] [(0,1,(t0 21)),(1,1,(t0 22))],.mP 24 81 2 [(t0 23)]]++sq 2 [mv 24])) .ret) (.seq (.h_ (sq 26 [bi .eql 3 3]++sq 25 [mv 26])) (.cond (t0 25) (.seq (.h_ (sq 27 [.mP 27 2 1 [(i0 0),(i0 (-1)),(i0 2)],.mP 28 2 1 [(i0 (-1))],.build [.sl 0 (some true) [],.sl 0 (some true) []] [(0,1,(t0 27)),(1,1,(t0 28))],.mP 30 2 1 [(i0 0),(i0 1),(i0 (-1)),(i0 1),(i0 (-2))],.mP 31 2 1 [(i0 0),(i0 (-1)),(i0 (-2))],.build [.sl 0 (some true) [],.sl 0 (some true) []] [(0,1,(t0 30)),(1,1,(t0 31))],.mP 33 81 2 [(t0 29),(t0 32)]]++sq 2 [mv 33])) .ret) (.seq (.h_ (sq 35 [bi .eql 3 4]++sq 34 [mv 35])) (.cond (t0 34) (.seq (.h_ (sq 36 [.mP 36 2 1 [(i0 1),(i0 2)],.mP 37 2 1 [(i0 2)],.build [.sl 0 (some true) [],.sl 0 (some true) []] [(0,1,(t0 36)),(1,1,(t0 37))],.mP 39 2 1 [(i0 1),(i0 0),(i0 (-1)),(i0 (-2))],.mP 40 2 1 [(i0 0),(i0 1),(i0 (-2)),(i0 1),(i0 (-1))],.build [.sl 0 (some true) [],.sl 0 (some true) []] [(0,1,(t0 39)),(1,1,(t0 40))],.mP 42 81 2 [(t0 38),(t0 41)]]++sq 2 [mv 42])) .ret) .skip)))))))))))) (.seq (.h_ (sq 43 [.mP 43 2 1 [(i0 0),(i0 2),(i0 (-1))],.mP 44 2 1 [(i0 (-1))],.build [.sl 0 (some true) [],.sl 0 (some true) []] [(0,1,(t0 43)),(1,1,(t0 44))],.mP 46 2 1 [(i0 0),(i0 (-1)),(i0 2)],.mP 47 2 1 [(i0 (-1))],.build [.sl 0 (some true) [],.sl 0 (some true) []] [(0,1,(t0 46)),(1,1,(t0 47))],.mP 49 2 1 [(i0 0),(i0 0),(i0 (-1)),(i0 (-2)),(i0 (-3))],.mP 50 2 1 [(i0 0),(i0 (-1)),(i0 0),(i0 (-2)),(i0 (-3))],.build [.sl 0 (some true) [],.sl 0 (some true) []] [(0,1,(t0 49)),(1,1,(t0 50))],.mP 52 81 2 [(t0 45),(t0 48),(t0 51)]]++sq 2 [mv 52])) .ret)))
theorem ZW:kH Tryz.prog 42 Yb 53 [.tmp 2]:=mf Tryz.func42 Tryz.ntmps42
def sQ(k:Int):Option gC:=
 if(k==0)=true then
  some [([0,2,(-1)],[(-1)]),([0,1,(-1),(-2)],[1,0,(-1),(-2)])]
 else
  if(k==1)=true then
   some [([0,0,(-1),(-2),(-3)],[0,(-1),0,(-2),(-3)])]
  else
   if(k==2)=true then
    some [([1,1,(-1)],[(-1)])]
   else
    if(k==3)=true then
     some [([0,(-1),2],[(-1)]),([0,1,(-1),1,(-2)],[0,(-1),(-2)])]
    else
     if(k==4)=true then
      some [([1,2],[2]),([1,0,(-1),(-2)],[0,1,(-2),1,(-1)])]
     else
      some [([0,2,(-1)],[(-1)]),([0,(-1),2],[(-1)]),([0,0,(-1),(-2),(-3)],[0,(-1),0,(-2),(-3)])]
instance Nt{k:Int}:iR (sQ k) fun rr=>jU Tryz.prog 42 [iD k] ((ia 2 g_) rr):=⟨@fun rr h=>by
 delta sQ at h;refine ZW.jC (gZ ?_);delta Yb;refine iN ?_;exact mA⟩
theorem Wr:decide ((2:Int)<2)=false:=(rfl)
attribute [go_sem] Wr
def Yr:ie:=
 (.seq (.h_ (sq 6 [.mv (.const (.slice none 0 0))])) (.seq (.seq (.h_ (sq 10 [mv 2,bi .gtr 10 0,mv 11]++sg 12 true 13 [mv 0,.kA 14 [(t0 13),(i0 3)],bi .eql 14 0]++sq 16 [pa 12 15])) (.cond (t0 16) (.seq (.h_ (sq 17 [mv 0,mv 2,cf 14 [17,18],.bin .sub (i0 (-1)) (t0 19),.mP 21 2 1 [(t0 20)]]++sq 6 [mv 21])) .ret) .skip)) (.seq (.h_ (sq 22 [mv 0,.kA 14 [(t0 22),(i0 3)]]++sq 7 [mv 23])) (.seq (.seq (.h_ (sq 24 [mv 1,bi .leq 24 1])) (.cond (t0 25) (.h_ (sq 7 [mi 2])) .skip)) (.seq (.h_ (sq 26 [mv 7,.mP 27 2 1 [(t0 26)]]++sq 8 [mv 27])) (.seq (.seq (.h_ (sq 28 [mv 7]++sq 9 [mv 28])) (.block 0 (.loop (.seq (.seq (.h_ (sq 29 [mv 9,bi .lss 29 2])) (.cond (t0 30) .skip (.exit 0))) (.seq (.block 1 (.h_ (sq 33 [mv 8,mv 0,mv 1,bi .sub 35 1,mv 2,cf 73 [34,36,37],ap 39 2 1 8 33 38]++sq 8 [mv 39]))) (.h_ (sq 31 [mv 9,bi .add 31 1]++sq 9 [mv 32]))))))) (.seq (.h_ (sq 40 [mv 8]++sq 6 [mv 40])) .ret)))))))
theorem aac:kH Tryz.prog 73 Yr 41 [.tmp 6]:=mf Tryz.func73 Tryz.ntmps73
def wS(r_2:gG):Unit->Option (Unit⊕gB)
 |_=>
  Option.map Sum.inr (
   some ([2],r_2.2.1,r_2.2.2))
def tU(rec:Int->Int->gv->Int->Int->Option gB)(deep:Int)(vars:Int)(d0:gv):gT->Option (gT⊕gB)
 |(out,k,d,d_1)=>
  if(decide (k<2))=true then
   (rec (IntKind.i64.wrap (deep-1)) vars d0 d d_1).bind fun r_3=>
   if(out.length+r_3.1.length)*8<=140737488355328 then
    some (.inl ((out++r_3.1),(IntKind.i64.wrap (k+1)),r_3.2.1,r_3.2.2))
   else none
  else
   Option.map Sum.inr (
    some (out,d,d_1))
def wT(r_4:gG):Unit->Option (Unit⊕gB)
 |_=>
  Option.map Sum.inr (
   some ([2],r_4.2.1,r_4.2.2))
def wU(rec:Int->Int->gv->Int->Int->Option gB)(deep:Int)(vars:Int)(d0:gv):gT->Option (gT⊕gB)
 |(out_1,k_1,d_2,d_3)=>
  if(decide (k_1<2))=true then
   (rec (IntKind.i64.wrap (deep-1)) vars d0 d_2 d_3).bind fun r_5=>
   if(out_1.length+r_5.1.length)*8<=140737488355328 then
    some (.inl ((out_1++r_5.1),(IntKind.i64.wrap (k_1+1)),r_5.2.1,r_5.2.2))
   else none
  else
   Option.map Sum.inr (
    some (out_1,d_2,d_3))
def mo:Nat->Int->Int->gv->Int->Int->Option gB
 |0,_,_,_,_,_=>none
 |fu+1,deep,vars,d0,d1,d2=>
  if(decide (0<vars))=true then
   (iH 3 d0 d1 d2).bind fun r=>
   if(r.1==0)=true then
    (iH vars d0 r.2.1 r.2.2).bind fun r_1=>
    some ([(IntKind.i64.wrap ((-1)-r_1.1))],r_1.2.1,r_1.2.2)
   else
    (iH 3 d0 r.2.1 r.2.2).bind fun r_2=>
    if(decide (deep<=1))=true then
     iw (wS r_2) ()
    else
     iw (tU (mo fu) deep vars d0) ([r_2.1],r_2.1,r_2.2.1,r_2.2.2)
  else
   (iH 3 d0 d1 d2).bind fun r_4=>
   if(decide (deep<=1))=true then
    iw (wT r_4) ()
   else
    iw (wU (mo fu) deep vars d0) ([r_4.1],r_4.1,r_4.2.1,r_4.2.2)
def lC(deep:Int)(vars:Int)(d0:gv)(d1:Int)(d2:Int):Option gB:=Cx fun fu=>mo fu deep vars d0 d1 d2
theorem zU:∀{fu:Nat}{deep:Int}{vars:Int}{d0:gv}{d1:Int}{d2:Int}{rr:gB}(h:mo fu deep vars d0 d1 d2=some rr),iC Tryz.prog 73 [.ptr 0 0,.d (iD deep),.d (iD vars)] [(0,.obj 77 [.d (ia 1 (kD .u8) d0),.d (iD d1),.d (.lit (.int .u64 d2))])] 1 fun xx ss=>xx=.d (ia 1 iD rr.1)/\ss=[(0,.obj 77 [.d (ia 1 (kD .u8) d0),.d (iD rr.2.1),.d (.lit (.int .u64 rr.2.2))])]
 |0,_,_,_,_,_,_,h=>by cases h
 |fu+1,deep,vars,d0,d1,d2,rr,h=>by
  have ih:∀{deep:Int}{vars:Int}{d0:gv}{d1:Int}{d2:Int},iR (mo fu deep vars d0 d1 d2) fun rr=>iC Tryz.prog 73 [.ptr 0 0,.d (iD deep),.d (iD vars)] [(0,.obj 77 [.d (ia 1 (kD .u8) d0),.d (iD d1),.d (.lit (.int .u64 d2))])] 1 fun xx ss=>xx=.d (ia 1 iD rr.1)/\ss=[(0,.obj 77 [.d (ia 1 (kD .u8) d0),.d (iD rr.2.1),.d (.lit (.int .u64 rr.2.2))])]:=⟨fun h=>zU h⟩
  unfold mo at h;refine aac.lO (gZ ?_);delta Yr;refine iN ?_;refine it h (fun hc h=>?_) fun hc h=>?_
  ·refine rB [(0,0)] [] h fun r hr h=>?_
   refine it h (fun hc h=>?_) fun hc h=>?_
   ·refine rB [(0,0)] [] h fun r_1 hr_1 h=>?_
    cases h;exact⟨[21],by simp,mT,mT⟩
   refine rB [(0,0)] [] h fun r_2 hr_2 h=>?_
   refine it h (fun hc h=>?_) fun hc h=>?_
   ·refine kT h [8,9,29,30,31,32,33,34,35,36,37,38,39] (fun pp=>[(8,.own 1 27 (List.map iD [2])),(9,.d (iD 2))]) (fun pp=>[(0,.obj 77 [.d (ia 1 (kD .u8) d0),.d (iD r_2.2.1),.d (.lit (.int .u64 r_2.2.2))]),(27,.tok 2 1 1)]) ?_;rintro _ t1 h hb1;unfold wS at h;try dsimp only at h
    refine gZ (iN ?_);replace h:=iZ h hb1;cases h;exact⟨[27],by simp,mT,mT⟩
   refine kT h [8,9,29,30,31,32,33,34,35,36,37,38,39] (fun pp=>[(8,.own 1 27 (List.map iD pp.1)),(9,.d (iD pp.2.1))]) (fun pp=>[(0,.obj 77 [.d (ia 1 (kD .u8) d0),.d (iD pp.2.2.1),.d (.lit (.int .u64 pp.2.2.2))]),(27,.tok 2 1 pp.1.length)]) ?_;rintro⟨out,k,d,d_1⟩ t1 h hb1;unfold tU at h;try dsimp only at h
   refine gZ (iN ?_);refine it h (fun hc h=>?_) fun hc h=>?_
   ·refine rB [(0,0)] [] h fun r_3 hr_3 h=>?_
    exact mA
   replace h:=iZ h hb1;cases h;exact⟨[27],by simp,mT,mT⟩
  refine rB [(0,0)] [] h fun r_4 hr_4 h=>?_
  refine it h (fun hc h=>?_) fun hc h=>?_
  ·refine kT h [8,9,29,30,31,32,33,34,35,36,37,38,39] (fun pp=>[(8,.own 1 27 (List.map iD [2])),(9,.d (iD 2))]) (fun pp=>[(0,.obj 77 [.d (ia 1 (kD .u8) d0),.d (iD r_4.2.1),.d (.lit (.int .u64 r_4.2.2))]),(27,.tok 2 1 1)]) ?_;rintro _ t1 h hb1;unfold wT at h;try dsimp only at h
   refine gZ (iN ?_);replace h:=iZ h hb1;cases h;exact⟨[27],by simp,mT,mT⟩
  refine kT h [8,9,29,30,31,32,33,34,35,36,37,38,39] (fun pp=>[(8,.own 1 27 (List.map iD pp.1)),(9,.d (iD pp.2.1))]) (fun pp=>[(0,.obj 77 [.d (ia 1 (kD .u8) d0),.d (iD pp.2.2.1),.d (.lit (.int .u64 pp.2.2.2))]),(27,.tok 2 1 pp.1.length)]) ?_;rintro⟨out_1,k_1,d_2,d_3⟩ t1 h hb1;unfold wU at h;try dsimp only at h
  refine gZ (iN ?_);refine it h (fun hc h=>?_) fun hc h=>?_
  ·refine rB [(0,0)] [] h fun r_5 hr_5 h=>?_
   exact mA
  replace h:=iZ h hb1;cases h;exact⟨[27],by simp,mT,mT⟩
instance J1{deep:Int}{vars:Int}{d0:gv}{d1:Int}{d2:Int}:iR (lC deep vars d0 d1 d2) fun rr=>iC Tryz.prog 73 [.ptr 0 0,.d (iD deep),.d (iD vars)] [(0,.obj 77 [.d (ia 1 (kD .u8) d0),.d (iD d1),.d (.lit (.int .u64 d2))])] 1 fun xx ss=>xx=.d (ia 1 iD rr.1)/\ss=[(0,.obj 77 [.d (ia 1 (kD .u8) d0),.d (iD rr.2.1),.d (.lit (.int .u64 rr.2.2))])]:=⟨fun h=>zU (t_ h).choose_spec⟩
def Ty:ie:=
 (.seq (.h_ (sq 4 [.mv (.const (.slice none 0 0))])) (.seq (.h_ (sq 5 [mi 0])) (.seq (.block 0 (.loop (.seq (.seq (.h_ (sq 7 [mv 5,mv 0,ln 8,bn .lss 7 9,mv 10]++sg 11 true 12 [mv 0,mv 5,ix 1 12 13,ld 14,mv 1,bn .lss 15 16]++sq 18 [pa 11 17])) (.cond (t0 18) .skip (.exit 0))) (.block 1 (.h_ (sq 19 [mv 5,bi .add 19 1]++sq 5 [mv 20])))))) (.seq (.seq (.h_ (sq 21 [mv 5,mv 0,ln 22,bn .lss 21 23,mv 24]++sg 25 true 26 [mv 0,mv 5,ix 1 26 27,ld 28,mv 1,bn .eql 29 30]++sq 32 [pa 25 31])) (.cond (t0 32) (.seq (.h_ (sq 33 [mv 0]++sq 4 [mv 33])) .ret) .skip)) (.seq (.h_ (sq 34 [mv 0,mv 5,.slc (t0 34) 1 none (some (t0 35)) none,cf 87 [36],mv 1,.mP 39 2 1 [(t0 38)],ap 40 2 1 8 37 39]++sq 6 [mv 40])) (.seq (.h_ (sq 41 [mv 6,mv 0,mv 5,.slc (t0 42) 1 (some (t0 43)) none none,ap 45 2 1 8 41 44]++sq 4 [mv 45])) .ret))))))
theorem W_:kH Tryz.prog 132 Ty 46 [.tmp 4]:=mf Tryz.func132 Tryz.ntmps132
def tV(list:gv)(n:Int):Int->Option (Int⊕gv)
 |k=>
  if(decide (k<(list.length:Int)))=true then
   if 0<=k/\k<(list.length:Int)then
    if(decide ((list.getD k.toNat default)<n))=true then
     some (.inl (IntKind.i64.wrap (k+1)))
    else
     Option.map Sum.inr (
      if(decide (k<(list.length:Int)))=true then
       if 0<=k/\k<(list.length:Int)then
        if((list.getD k.toNat default)==n)=true then
         some list
        else
         if 0<=k/\k<=(list.length:Int)then
          (jo (list.take k.toNat)).bind fun r=>
          if(r.length+1)*8<=140737488355328 then
           if 0<=k/\k<=(list.length:Int)then
            if((r++[n]).length+(list.drop k.toNat).length)*8<=140737488355328 then
             some ((r++[n])++(list.drop k.toNat))
            else none
           else none
          else none
         else none
       else none
      else
       if 0<=k/\k<=(list.length:Int)then
        (jo (list.take k.toNat)).bind fun r_1=>
        if(r_1.length+1)*8<=140737488355328 then
         if 0<=k/\k<=(list.length:Int)then
          if((r_1++[n]).length+(list.drop k.toNat).length)*8<=140737488355328 then
           some ((r_1++[n])++(list.drop k.toNat))
          else none
         else none
        else none
       else none)
   else none
  else
   Option.map Sum.inr (
    if(decide (k<(list.length:Int)))=true then
     if 0<=k/\k<(list.length:Int)then
      if((list.getD k.toNat default)==n)=true then
       some list
      else
       if 0<=k/\k<=(list.length:Int)then
        (jo (list.take k.toNat)).bind fun r_2=>
        if(r_2.length+1)*8<=140737488355328 then
         if 0<=k/\k<=(list.length:Int)then
          if((r_2++[n]).length+(list.drop k.toNat).length)*8<=140737488355328 then
           some ((r_2++[n])++(list.drop k.toNat))
          else none
         else none
        else none
       else none
     else none
    else
     if 0<=k/\k<=(list.length:Int)then
      (jo (list.take k.toNat)).bind fun r_3=>
      if(r_3.length+1)*8<=140737488355328 then
       if 0<=k/\k<=(list.length:Int)then
        if((r_3++[n]).length+(list.drop k.toNat).length)*8<=140737488355328 then
         some ((r_3++[n])++(list.drop k.toNat))
        else none
       else none
      else none
     else none)
def rL(list:gv)(n:Int):Option gv:=
 iw (tV list n) 0
instance Qc{list:gv}{n:Int}:iR (rL list n) fun rr=>jU Tryz.prog 132 [(ia 1 iD) list,iD n] ((ia 1 iD) rr):=⟨@fun rr h=>by
 delta rL at h;refine W_.jC (gZ ?_);delta Ty;refine iN ?_;refine kT h [5,7,8,9,10,11,12,13,14,15,16,17,18,19,20] (fun pp=>[(5,.d (iD pp))]) (fun pp=>[]) ?_;rintro k t1 h hb1;unfold tV at h;try dsimp only at h
 refine gZ (iN ?_);refine it h (fun hc h=>?_) fun hc h=>?_
 ·refine j_ h fun hp h=>?_
  refine iF h fun hc h=>?_
  replace h:=iZ h hb1;refine it h (fun hc h=>?_) fun hc h=>?_
  ·refine j_ h fun hp h=>?_
   refine iF h fun hc h=>?_
   refine j_ h fun hp h=>?_
   refine rB [] [(3,37)] h fun r hr h=>?_
   exact mA
  refine j_ h fun hp h=>?_
  refine rB [] [(3,37)] h fun r_1 hr_1 h=>?_
  exact mA
 replace h:=iZ h hb1;refine it h (fun hc h=>?_) fun hc h=>?_
 ·refine j_ h fun hp h=>?_
  refine iF h fun hc h=>?_
  refine j_ h fun hp h=>?_
  refine rB [] [(3,37)] h fun r_2 hr_2 h=>?_
  exact mA
 refine j_ h fun hp h=>?_
 refine rB [] [(3,37)] h fun r_3 hr_3 h=>?_
 exact mA⟩
def YN:ie:=
 (.seq (.h_ (sq 2 [.mv (.const (.slice none 0 0))])) (.seq (.h_ (sq 5 [.mP 5 2 1 []]++sq 3 [mv 5])) (.seq (.seq (.h_ (sq 4 [mi 0])) (.block 0 (.loop (.seq (.seq (.h_ (sq 6 [mv 4,mv 0,ln 7,bn .lss 6 8])) (.cond (t0 9) .skip (.exit 0))) (.seq (.block 1 (.seq (.h_ (sq 12 [mv 0,mv 4,ix 1 12 13,ld 14,bi .lss 15 0])) (.cond (t0 16) (.h_ (sq 17 [mv 3,mv 0,mv 4,ix 1 18 19,ld 20,.bin .sub (i0 (-1)) (t0 21),cf 132 [17,22]]++sq 3 [mv 23])) .skip))) (.h_ (sq 10 [mv 4,bi .add 10 1]++sq 4 [mv 11]))))))) (.seq (.h_ (sq 24 [mv 3]++sq 2 [mv 24])) .ret))))
theorem aay:kH Tryz.prog 99 YN 25 [.tmp 2]:=mf Tryz.func99 Tryz.ntmps99
def tW(t:gv):gH->Option gX
 |(out,i)=>
  if(decide (i<(t.length:Int)))=true then
   if 0<=i/\i<(t.length:Int)then
    if(decide ((t.getD i.toNat default)<0))=true then
     if 0<=i/\i<(t.length:Int)then
      (rL out (IntKind.i64.wrap ((-1)-(t.getD i.toNat default)))).bind fun r=>
      some (.inl (r,(IntKind.i64.wrap (i+1))))
     else none
    else
     some (.inl (out,(IntKind.i64.wrap (i+1))))
   else none
  else
   Option.map Sum.inr (
    some out)
def uh(t:gv):Option gv:=
 iw (tW t) ([],0)
instance Qd{t:gv}:iR (uh t) fun rr=>jU Tryz.prog 99 [(ia 1 iD) t] ((ia 1 iD) rr):=⟨@fun rr h=>by
 delta uh at h;refine aay.jC (gZ ?_);delta YN;refine iN ?_;refine kT h [3,4,6,7,8,9,10,11,12,13,14,15,16,17,18,19,20,21,22,23] (fun pp=>[(3,.d (ia 1 iD pp.1)),(4,.d (iD pp.2))]) (fun pp=>[(5,.tok 2 1 0)]) ?_;rintro⟨out,i⟩ t1 h hb1;unfold tW at h;try dsimp only at h
 refine gZ (iN ?_);exact mA⟩
def Ys:ie:=
 (.seq (.h_ (sq 2 [bo 2 30 0]++sq 4 [.mv (.const (.slice none 0 0))])) (.seq (.seq (.h_ (sq 5 [la 1 2,mv 1,cf 84 [5,6],nt 7])) (.cond (t0 8) (.seq (.h_ (sq 9 [.mP 9 2 1 []]++sq 4 [mv 9])) .ret) .skip)) (.seq (.h_ (sq 10 [mv 1,cf 99 [10]]++sq 4 [mv 11])) .ret)))
theorem aad:kH Tryz.prog 74 Ys 12 [.tmp 4]:=mf Tryz.func74 Tryz.ntmps74
def pX(sig:gv)(t:gv):Option gv:=
 (m_ sig t).bind fun r=>
 if r=true then
  (uh t).bind fun r_1=>
  some r_1
 else
  some []
instance P7{sig:gv}{t:gv}:iR (pX sig t) fun rr=>jU Tryz.prog 74 [jd sig,(ia 1 iD) t] ((ia 1 iD) rr):=⟨@fun rr h=>by
 delta pX at h;refine aad.jC (gZ ?_);delta Ys;refine iN ?_;exact mA⟩
def uU:ie:=
 (.seq (.h_ (sq 6 [.mv (.const (.slice none 0 0))])) (.seq (.seq (.h_ (sq 10 [mv 2,bi .gtr 10 0,mv 11]++sg 12 true 13 [mv 0,.kA 14 [(t0 13),(i0 3)],bi .eql 14 0]++sq 16 [pa 12 15])) (.cond (t0 16) (.seq (.h_ (sq 17 [mv 0,mv 2,cf 14 [17,18],.bin .sub (i0 (-1)) (t0 19),.zM 21 2 1 [(t0 20)]]++sq 6 [mv 21])) .ret) .skip)) (.seq (.h_ (sq 22 [mv 0,.kA 14 [(t0 22),(i0 3)]]++sq 7 [mv 23])) (.seq (.seq (.h_ (sq 24 [mv 1,bi .leq 24 1])) (.cond (t0 25) (.h_ (sq 7 [mi 2])) .skip)) (.seq (.h_ (sq 26 [mv 7,.zM 27 2 1 [(t0 26)]]++sq 8 [mv 27])) (.seq (.seq (.h_ (sq 28 [mv 7]++sq 9 [mv 28])) (.block 0 (.loop (.seq (.seq (.h_ (sq 29 [mv 9,bi .lss 29 2])) (.cond (t0 30) .skip (.exit 0))) (.seq (.block 1 (.h_ (sq 33 [mv 8,mv 0,mv 1,bi .sub 35 1,mv 2,cf 73 [34,36,37],ap 39 2 1 8 33 38]++sq 8 [mv 39]))) (.h_ (sq 31 [mv 9,bi .add 31 1]++sq 9 [mv 32]))))))) (.seq (.h_ (sq 40 [mv 8]++sq 6 [mv 40])) .ret)))))))
theorem zN:kH Tryz.prog 73 uU 41 [.tmp 6]:=mf Tryz.func73 Tryz.ntmps73
def uQ(r_2:gG):Unit->Option (Unit⊕gB)
 |_=>
  Option.map Sum.inr (
   some ([2],r_2.2.1,r_2.2.2))
def rq(deep:Int)(vars:Int)(d0:gv):gI->Option (gI⊕gB)
 |(k,d,d_1,g27)=>
  if(decide (k<2))=true then
   (lC (IntKind.i64.wrap (deep-1)) vars d0 d d_1).bind fun r_3=>
   if(g27.length+r_3.1.length)*8<=140737488355328 then
    some (.inl ((IntKind.i64.wrap (k+1)),r_3.2.1,r_3.2.2,(g27++r_3.1)))
   else none
  else
   Option.map Sum.inr (
    some (g27,d,d_1))
def uR(r_4:gG):Unit->Option (Unit⊕gB)
 |_=>
  Option.map Sum.inr (
   some ([2],r_4.2.1,r_4.2.2))
def uS(deep:Int)(vars:Int)(d0:gv):gI->Option (gI⊕gB)
 |(k_1,d_2,d_3,g27_1)=>
  if(decide (k_1<2))=true then
   (lC (IntKind.i64.wrap (deep-1)) vars d0 d_2 d_3).bind fun r_5=>
   if(g27_1.length+r_5.1.length)*8<=140737488355328 then
    some (.inl ((IntKind.i64.wrap (k_1+1)),r_5.2.1,r_5.2.2,(g27_1++r_5.1)))
   else none
  else
   Option.map Sum.inr (
    some (g27_1,d_2,d_3))
def oP:Nat->Int->Int->gv->Int->Int->Option gB
 |0,_,_,_,_,_=>none
 |fu+1,deep,vars,d0,d1,d2=>
  if(decide (0<vars))=true then
   (iH 3 d0 d1 d2).bind fun r=>
   if(r.1==0)=true then
    (iH vars d0 r.2.1 r.2.2).bind fun r_1=>
    some ([(IntKind.i64.wrap ((-1)-r_1.1))],r_1.2.1,r_1.2.2)
   else
    (iH 3 d0 r.2.1 r.2.2).bind fun r_2=>
    if(decide (deep<=1))=true then
     iw (uQ r_2) ()
    else
     iw (rq deep vars d0) (r_2.1,r_2.2.1,r_2.2.2,[r_2.1])
  else
   (iH 3 d0 d1 d2).bind fun r_4=>
   if(decide (deep<=1))=true then
    iw (uR r_4) ()
   else
    iw (uS deep vars d0) (r_4.1,r_4.2.1,r_4.2.2,[r_4.1])
def ot(deep:Int)(vars:Int)(d0:gv)(d1:Int)(d2:Int):Option gB:=Cx fun fu=>oP fu deep vars d0 d1 d2
theorem wY:∀{fu:Nat}{deep:Int}{vars:Int}{d0:gv}{d1:Int}{d2:Int}{rr:gB}(h:oP fu deep vars d0 d1 d2=some rr),iC Tryz.prog 73 [.ptr 0 0,.d (iD deep),.d (iD vars)] [(0,.obj 77 [.d (ia 1 (kD .u8) d0),.d (iD d1),.d (.lit (.int .u64 d2))])] 1 fun xx ss=>xx=.nr 1 900000 rr.1.length/\ss=[(0,.obj 77 [.d (ia 1 (kD .u8) d0),.d (iD rr.2.1),.d (.lit (.int .u64 rr.2.2))]),(900000,.kQ 2 1 rr.1.length (kP iD rr.1))]
 |0,_,_,_,_,_,_,h=>by cases h
 |fu+1,deep,vars,d0,d1,d2,rr,h=>by
  have ih:∀{deep:Int}{vars:Int}{d0:gv}{d1:Int}{d2:Int},iR (oP fu deep vars d0 d1 d2) fun rr=>iC Tryz.prog 73 [.ptr 0 0,.d (iD deep),.d (iD vars)] [(0,.obj 77 [.d (ia 1 (kD .u8) d0),.d (iD d1),.d (.lit (.int .u64 d2))])] 1 fun xx ss=>xx=.nr 1 900000 rr.1.length/\ss=[(0,.obj 77 [.d (ia 1 (kD .u8) d0),.d (iD rr.2.1),.d (.lit (.int .u64 rr.2.2))]),(900000,.kQ 2 1 rr.1.length (kP iD rr.1))]:=⟨fun h=>wY h⟩
  unfold oP at h;refine zN.Io (gZ ?_);delta uU;refine iN ?_;refine it h (fun hc h=>?_) fun hc h=>?_
  ·refine rB [(0,0)] [] h fun r hr h=>?_
   refine it h (fun hc h=>?_) fun hc h=>?_
   ·refine rB [(0,0)] [] h fun r_1 hr_1 h=>?_
    cases h;exact jw.trans ((jw.move 21 900000 (ob:=.kQ 2 1 1 (kP iD [(IntKind.i64.wrap ((-1)-r_1.1))])) gY gY gY rfl (by first|rfl|(simp;done)|(simp[sat,wA,sset,jz,zQ,xz,Ob.kV,Ob.kill,sk];done)))) (jw.told El mT)
   refine rB [(0,0)] [] h fun r_2 hr_2 h=>?_
   refine it h (fun hc h=>?_) fun hc h=>?_
   ·refine kT h [8,9,29,30,31,32,33,34,35,36,37,38,39] (fun pp=>[(8,.nr 1 27 1),(9,.d (iD 2))]) (fun pp=>[(0,.obj 77 [.d (ia 1 (kD .u8) d0),.d (iD r_2.2.1),.d (.lit (.int .u64 r_2.2.2))]),(27,.kQ 2 1 1 (kP iD [2]))]) ?_;rintro _ t1 h hb1;unfold uQ at h;try dsimp only at h
    refine gZ (iN ?_);replace h:=iZ h hb1;cases h;exact jw.trans ((jw.move 27 900000 (ob:=.kQ 2 1 1 (kP iD [2])) gY gY gY rfl (by first|rfl|(simp;done)|(simp[sat,wA,sset,jz,zQ,xz,Ob.kV,Ob.kill,sk];done)))) (jw.told El mT)
   refine kT h [8,9,29,30,31,32,33,34,35,36,37,38,39] (fun pp=>[(8,.nr 1 27 pp.2.2.2.length),(9,.d (iD pp.1))]) (fun pp=>[(0,.obj 77 [.d (ia 1 (kD .u8) d0),.d (iD pp.2.1),.d (.lit (.int .u64 pp.2.2.1))]),(27,.kQ 2 1 pp.2.2.2.length (kP iD pp.2.2.2))]) ?_;rintro⟨k,d,d_1,g27⟩ t1 h hb1;unfold rq at h;try dsimp only at h
   refine gZ (iN ?_);refine it h (fun hc h=>?_) fun hc h=>?_
   ·refine rB [(0,0)] [] h fun r_3 hr_3 h=>?_
    exact mA
   replace h:=iZ h hb1;cases h;exact jw.trans ((jw.move 27 900000 (ob:=.kQ 2 1 g27.length (kP iD g27)) gY gY gY rfl (by first|rfl|(simp;done)|(simp[sat,wA,sset,jz,zQ,xz,Ob.kV,Ob.kill,sk];done)))) (jw.told El mT)
  refine rB [(0,0)] [] h fun r_4 hr_4 h=>?_
  refine it h (fun hc h=>?_) fun hc h=>?_
  ·refine kT h [8,9,29,30,31,32,33,34,35,36,37,38,39] (fun pp=>[(8,.nr 1 27 1),(9,.d (iD 2))]) (fun pp=>[(0,.obj 77 [.d (ia 1 (kD .u8) d0),.d (iD r_4.2.1),.d (.lit (.int .u64 r_4.2.2))]),(27,.kQ 2 1 1 (kP iD [2]))]) ?_;rintro _ t1 h hb1;unfold uR at h;try dsimp only at h
   refine gZ (iN ?_);replace h:=iZ h hb1;cases h;exact jw.trans ((jw.move 27 900000 (ob:=.kQ 2 1 1 (kP iD [2])) gY gY gY rfl (by first|rfl|(simp;done)|(simp[sat,wA,sset,jz,zQ,xz,Ob.kV,Ob.kill,sk];done)))) (jw.told El mT)
  refine kT h [8,9,29,30,31,32,33,34,35,36,37,38,39] (fun pp=>[(8,.nr 1 27 pp.2.2.2.length),(9,.d (iD pp.1))]) (fun pp=>[(0,.obj 77 [.d (ia 1 (kD .u8) d0),.d (iD pp.2.1),.d (.lit (.int .u64 pp.2.2.1))]),(27,.kQ 2 1 pp.2.2.2.length (kP iD pp.2.2.2))]) ?_;rintro⟨k_1,d_2,d_3,g27_1⟩ t1 h hb1;unfold uS at h;try dsimp only at h
  refine gZ (iN ?_);refine it h (fun hc h=>?_) fun hc h=>?_
  ·refine rB [(0,0)] [] h fun r_5 hr_5 h=>?_
   exact mA
  replace h:=iZ h hb1;cases h;exact jw.trans ((jw.move 27 900000 (ob:=.kQ 2 1 g27_1.length (kP iD g27_1)) gY gY gY rfl (by first|rfl|(simp;done)|(simp[sat,wA,sset,jz,zQ,xz,Ob.kV,Ob.kill,sk];done)))) (jw.told El mT)
instance Gs{deep:Int}{vars:Int}{d0:gv}{d1:Int}{d2:Int}:iR (ot deep vars d0 d1 d2) fun rr=>iC Tryz.prog 73 [.ptr 0 0,.d (iD deep),.d (iD vars)] [(0,.obj 77 [.d (ia 1 (kD .u8) d0),.d (iD d1),.d (.lit (.int .u64 d2))])] 1 fun xx ss=>xx=.nr 1 900000 rr.1.length/\ss=[(0,.obj 77 [.d (ia 1 (kD .u8) d0),.d (iD rr.2.1),.d (.lit (.int .u64 rr.2.2))]),(900000,.kQ 2 1 rr.1.length (kP iD rr.1))]:=⟨fun h=>wY (t_ h).choose_spec⟩
def Yc:ie:=
 (.seq (.h_ (sq 2 [.alloc 2 81 [.sl 0 (some true) [],.sl 0 (some true) []]])) (.seq (.h_ (sq 7 [.mP 7 2 1 [(i0 1)],mv 0,.kA 73 [(t0 8),(i0 2),(i0 2)],ap 10 2 1 8 7 9]++sq 3 [mv 10])) (.seq (.seq (.h_ (sq 11 [mv 0,.kA 14 [(t0 11),(i0 2)],bi .eql 12 0])) (.cond (t0 13) (.h_ (sq 14 [.mP 14 2 1 [(i0 0)],mv 0,.kA 73 [(t0 15),(i0 2),(i0 2)],ap 17 2 1 8 14 16,mv 0,.kA 73 [(t0 18),(i0 1),(i0 2)],ap 20 2 1 8 17 19]++sq 3 [mv 20])) .skip)) (.seq (.h_ (sq 21 [cf 41 [],mv 3,cf 74 [21,22]]++sq 4 [mv 23])) (.seq (.h_ (sq 24 [mv 0,.kA 73 [(t0 24),(i0 3),(i0 2)]]++sq 5 [mv 25])) (.seq (.seq (.h_ (sq 6 [mi 0])) (.block 0 (.loop (.seq (.seq (.h_ (sq 26 [mv 6,mv 5,ln 27,bn .lss 26 28])) (.cond (t0 29) .skip (.exit 0))) (.seq (.block 1 (.seq (.h_ (sq 32 [mv 5,mv 6,ix 1 32 33,ld 34,bi .lss 35 0,mv 36]++sg 37 true 38 [mv 4,ln 38,bi .eql 39 0]++sq 41 [pa 37 40])) (.cond (t0 41) (.h_ (sq 42 [mv 5,mv 6,ix 1 42 43]++s0 (.store 1 (t0 44) (i0 2)))) (.seq (.h_ (sq 45 [mv 5,mv 6,ix 1 45 46,ld 47,bi .lss 48 0])) (.cond (t0 49) (.h_ (sq 50 [mv 5,mv 6,mv 4,mv 0,mv 4,ln 54,cf 14 [53,55],ix 1 52 56,ld 57,.bin .sub (i0 (-1)) (t0 58),ix 1 50 51]++s0 (sr 1 60 59))) .skip))))) (.h_ (sq 30 [mv 6,bi .add 30 1]++sq 6 [mv 31]))))))) (.seq (.h_ (sq 61 [mv 3,mv 5,.build [.sl 0 (some true) [],.sl 0 (some true) []] [(0,1,(t0 61)),(1,1,(t0 62))]]++s0 (sr 2 2 63))) .ret)))))))
theorem ZX:kH Tryz.prog 43 Yc 64 [.cell 2 2 true]:=mf Tryz.func43 Tryz.ntmps43
def qN(d0:gv)(r_2:gB)(r_3:gB)(r_5:gv):gI->Option (gI⊕(gz×Int×Int))
 |(i,d,d_1,g25)=>
  if(decide (i<(g25.length:Int)))=true then
   if 0<=i/\i<(g25.length:Int)then
    if(decide ((g25.getD i.toNat default)<0))=true then
     if((r_5.length:Int)==0)=true then
      if 0<=i/\i<(g25.length:Int)then
       some (.inl ((IntKind.i64.wrap (i+1)),d,d_1,(g25.set i.toNat 2)))
      else none
     else
      if 0<=i/\i<(g25.length:Int)then
       if(decide ((g25.getD i.toNat default)<0))=true then
        (iH (r_5.length:Int) d0 d d_1).bind fun r_7=>
        if 0<=r_7.1/\r_7.1<(r_5.length:Int)then
         if 0<=i/\i<(g25.length:Int)then
          some (.inl ((IntKind.i64.wrap (i+1)),r_7.2.1,r_7.2.2,(g25.set i.toNat (IntKind.i64.wrap ((-1)-(r_5.getD r_7.1.toNat default))))))
         else none
        else none
       else
        some (.inl ((IntKind.i64.wrap (i+1)),d,d_1,g25))
      else none
    else
     if 0<=i/\i<(g25.length:Int)then
      if(decide ((g25.getD i.toNat default)<0))=true then
       (iH (r_5.length:Int) d0 d d_1).bind fun r_8=>
       if 0<=r_8.1/\r_8.1<(r_5.length:Int)then
        if 0<=i/\i<(g25.length:Int)then
         some (.inl ((IntKind.i64.wrap (i+1)),r_8.2.1,r_8.2.2,(g25.set i.toNat (IntKind.i64.wrap ((-1)-(r_5.getD r_8.1.toNat default))))))
        else none
       else none
      else
       some (.inl ((IntKind.i64.wrap (i+1)),d,d_1,g25))
     else none
   else none
  else
   Option.map Sum.inr (
    some (((([0]++r_2.1)++r_3.1),g25),d,d_1))
def qO(d0:gv)(r:gB)(r_10:gv):gI->Option (gI⊕(gz×Int×Int))
 |(i_1,d_2,d_3,g25_1)=>
  if(decide (i_1<(g25_1.length:Int)))=true then
   if 0<=i_1/\i_1<(g25_1.length:Int)then
    if(decide ((g25_1.getD i_1.toNat default)<0))=true then
     if((r_10.length:Int)==0)=true then
      if 0<=i_1/\i_1<(g25_1.length:Int)then
       some (.inl ((IntKind.i64.wrap (i_1+1)),d_2,d_3,(g25_1.set i_1.toNat 2)))
      else none
     else
      if 0<=i_1/\i_1<(g25_1.length:Int)then
       if(decide ((g25_1.getD i_1.toNat default)<0))=true then
        (iH (r_10.length:Int) d0 d_2 d_3).bind fun r_12=>
        if 0<=r_12.1/\r_12.1<(r_10.length:Int)then
         if 0<=i_1/\i_1<(g25_1.length:Int)then
          some (.inl ((IntKind.i64.wrap (i_1+1)),r_12.2.1,r_12.2.2,(g25_1.set i_1.toNat (IntKind.i64.wrap ((-1)-(r_10.getD r_12.1.toNat default))))))
         else none
        else none
       else
        some (.inl ((IntKind.i64.wrap (i_1+1)),d_2,d_3,g25_1))
      else none
    else
     if 0<=i_1/\i_1<(g25_1.length:Int)then
      if(decide ((g25_1.getD i_1.toNat default)<0))=true then
       (iH (r_10.length:Int) d0 d_2 d_3).bind fun r_13=>
       if 0<=r_13.1/\r_13.1<(r_10.length:Int)then
        if 0<=i_1/\i_1<(g25_1.length:Int)then
         some (.inl ((IntKind.i64.wrap (i_1+1)),r_13.2.1,r_13.2.2,(g25_1.set i_1.toNat (IntKind.i64.wrap ((-1)-(r_10.getD r_13.1.toNat default))))))
        else none
       else none
      else
       some (.inl ((IntKind.i64.wrap (i_1+1)),d_2,d_3,g25_1))
     else none
   else none
  else
   Option.map Sum.inr (
    some ((([1]++r.1),g25_1),d_2,d_3))
def rI(d0:gv)(d1:Int)(d2:Int):Option (gz×Int×Int):=
 (lC 2 2 d0 d1 d2).bind fun r=>
 if(1+r.1.length)*8<=140737488355328 then
  (iH 2 d0 r.2.1 r.2.2).bind fun r_1=>
  if(r_1.1==0)=true then
   (lC 2 2 d0 r_1.2.1 r_1.2.2).bind fun r_2=>
   if(1+r_2.1.length)*8<=140737488355328 then
    (lC 1 2 d0 r_2.2.1 r_2.2.2).bind fun r_3=>
    if(([0]++r_2.1).length+r_3.1.length)*8<=140737488355328 then
     (oq).bind fun r_4=>
     (pX r_4 (([0]++r_2.1)++r_3.1)).bind fun r_5=>
     (ot 3 2 d0 r_3.2.1 r_3.2.2).bind fun r_6=>
     iw (qN d0 r_2 r_3 r_5) (0,r_6.2.1,r_6.2.2,r_6.1)
    else none
   else none
  else
   (oq).bind fun r_9=>
   (pX r_9 ([1]++r.1)).bind fun r_10=>
   (ot 3 2 d0 r_1.2.1 r_1.2.2).bind fun r_11=>
   iw (qO d0 r r_10) (0,r_11.2.1,r_11.2.2,r_11.1)
 else none
instance P3{d0:gv}{d1:Int}{d2:Int}:iR (rI d0 d1 d2) fun rr=>iC Tryz.prog 43 [.ptr 0 0] [(0,.obj 77 [.d (ia 1 (kD .u8) d0),.d (iD d1),.d (.lit (.int .u64 d2))])] 1 fun xx ss=>xx=.d (.agg [ia 1 iD rr.1.1,ia 1 iD rr.1.2])/\ss=[(0,.obj 77 [.d (ia 1 (kD .u8) d0),.d (iD rr.2.1),.d (.lit (.int .u64 rr.2.2))])]:=⟨@fun rr h=>by
 delta rI at h;refine ZX.Io (gZ ?_);delta Yc;refine iN ?_;refine rB [(0,0)] [] h fun r hr h=>?_
 refine j_ h fun hp h=>?_
 refine rB [(0,0)] [] h fun r_1 hr_1 h=>?_
 refine it h (fun hc h=>?_) fun hc h=>?_
 ·refine rB [(0,0)] [] h fun r_2 hr_2 h=>?_
  refine j_ h fun hp h=>?_
  refine rB [(0,0)] [] h fun r_3 hr_3 h=>?_
  refine j_ h fun hp h=>?_
  refine rC h fun r_4 hr_4 h=>?_
  refine rC h fun r_5 hr_5 h=>?_
  refine rB [(0,0)] [(900000,25)] h fun r_6 hr_6 h=>?_
  refine kT h [5,6,26,27,28,29,30,31,32,33,34,35,36,37,38,39,40,41,42,43,44,45,46,47,48,49,50,51,52,53,54,55,56,57,58,59,60] (fun pp=>[(6,.d (iD pp.1)),(5,.nr 1 25 pp.2.2.2.length)]) (fun pp=>[(0,.obj 77 [.d (ia 1 (kD .u8) d0),.d (iD pp.2.1),.d (.lit (.int .u64 pp.2.2.1))]),(2,.obj 81 [.d (.sl 0 (some true) []),.d (.sl 0 (some true) [])]),(7,.tok 2 1 (([1]++r.1).length)),(14,.tok 2 1 ((([0]++r_2.1)++r_3.1).length)),(25,.kQ 2 1 pp.2.2.2.length (kP iD pp.2.2.2))]) ?_;rintro⟨i,d,d_1,g25⟩ t1 h hb1;unfold qN at h;try dsimp only at h
  refine gZ (iN ?_);refine it h (fun hc h=>?_) fun hc h=>?_
  ·refine j_ h fun hp h=>?_
   refine qa ?_;refine it h (fun hc h=>?_) fun hc h=>?_
   ·refine iF h fun hc h=>?_
    refine j_ h fun hp h=>?_
    refine qa ?_;refine iT h fun hc h=>?_
    refine rB [(0,0)] [] h fun r_7 hr_7 h=>?_
    exact mA
   refine j_ h fun hp h=>?_
   refine qa ?_;refine iT h fun hc1 h=>?_
   exact absurd hc1 (by rw[hc];decide)
  replace h:=iZ h hb1;cases h;exact jw.trans ((jw.trans (jw.fz 25 iD rfl g25) (jw.zX [2,7,14] (by simp)))) (jw.told El mT)
 refine rC h fun r_9 hr_9 h=>?_
 refine rC h fun r_10 hr_10 h=>?_
 refine rB [(0,0)] [(900000,25)] h fun r_11 hr_11 h=>?_
 refine kT h [5,6,26,27,28,29,30,31,32,33,34,35,36,37,38,39,40,41,42,43,44,45,46,47,48,49,50,51,52,53,54,55,56,57,58,59,60] (fun pp=>[(6,.d (iD pp.1)),(5,.nr 1 25 pp.2.2.2.length)]) (fun pp=>[(0,.obj 77 [.d (ia 1 (kD .u8) d0),.d (iD pp.2.1),.d (.lit (.int .u64 pp.2.2.1))]),(2,.obj 81 [.d (.sl 0 (some true) []),.d (.sl 0 (some true) [])]),(7,.tok 2 1 (([1]++r.1).length)),(25,.kQ 2 1 pp.2.2.2.length (kP iD pp.2.2.2))]) ?_;rintro⟨i_1,d_2,d_3,g25_1⟩ t1 h hb1;unfold qO at h;try dsimp only at h
 refine gZ (iN ?_);refine it h (fun hc h=>?_) fun hc h=>?_
 ·refine j_ h fun hp h=>?_
  refine qa ?_;refine it h (fun hc h=>?_) fun hc h=>?_
  ·refine iF h fun hc h=>?_
   refine j_ h fun hp h=>?_
   refine qa ?_;refine iT h fun hc h=>?_
   refine rB [(0,0)] [] h fun r_12 hr_12 h=>?_
   exact mA
  refine j_ h fun hp h=>?_
  refine qa ?_;refine iT h fun hc1 h=>?_
  exact absurd hc1 (by rw[hc];decide)
 replace h:=iZ h hb1;cases h;exact jw.trans ((jw.trans (jw.fz 25 iD rfl g25_1) (jw.zX [2,7] (by simp)))) (jw.told El mT)⟩
def XX:ie:=
 (.seq (.h_ (sq 2 [.alloc 2 33 [.sl 0 (some true) [],.sl 0 (some true) []]])) (.seq (.h_ (sq 5 [cf 41 [],.build [.sl 0 (some true) [],.sl 0 (some true) []] [(0,1,(t0 5))]]++sq 3 [.alloc 3 33 [.sl 0 (some true) [],.sl 0 (some true) []]]++s0 (sr 2 3 6))) (.seq (.seq (.h_ (sq 7 [mv 0,.kA 14 [(t0 7),(i0 2)],bi .eql 8 0])) (.cond (t0 9) (.seq (.h_ (sq 10 [mv 0,.kA 14 [(t0 10),(i0 6)],cf 42 [11],fa 1 3]++s0 (sr 1 13 12))) (.seq (.h_ (sq 14 [la 2 3]++s0 (sr 2 2 14))) .ret)) .skip)) (.seq (.seq (.h_ (sq 15 [mv 0,.kA 14 [(t0 15),(i0 3)],.bin .add (i0 1) (t0 16)]++sq 4 [mv 17])) (.block 0 (.loop (.seq (.seq (.h_ (sq 18 [mv 4,bi .gtr 18 0])) (.cond (t0 19) .skip (.exit 0))) (.seq (.block 1 (.draw (sq 22 [fa 1 3,ld 22,mv 0,cf 43 [24],.mP 26 81 2 [(t0 25)],ap 27 81 2 48 23 26,fa 1 3]++s0 (sr 1 28 27)) [[],[0],[],[2],[3],[1,4,3],[0,1,2,3,4,5],[6,5,5,0,1,2,3,4,5]])) (.h_ (sq 20 [mv 4,bi .sub 20 1]++sq 4 [mv 21]))))))) (.seq (.h_ (sq 29 [la 2 3]++s0 (sr 2 2 29))) .ret)))))
theorem ZI:kH Tryz.prog 13 XX 30 [.cell 2 2 true]:=mf Tryz.func13 Tryz.ntmps13
def r_(d0:gv)(r:gv):(Int×Int×Int×gC)->Option ((Int×Int×Int×gC)⊕(gJ×Int×Int))
 |(k,d,d_1,sys)=>
  if(decide (0<k))=true then
   (rI d0 d d_1).bind fun r_5=>
   if(sys.length+1)*48<=140737488355328 then
    some (.inl ((IntKind.i64.wrap (k-1)),r_5.2.1,r_5.2.2,(sys++[r_5.1])))
   else none
  else
   Option.map Sum.inr (
    some ((r,sys),d,d_1))
def pS(d0:gv)(d1:Int)(d2:Int):Option (gJ×Int×Int):=
 (oq).bind fun r=>
 (iH 2 d0 d1 d2).bind fun r_1=>
 if(r_1.1==0)=true then
  (iH 6 d0 r_1.2.1 r_1.2.2).bind fun r_2=>
  (sQ r_2.1).bind fun r_3=>
  some ((r,r_3),r_2.2.1,r_2.2.2)
 else
  (iH 3 d0 r_1.2.1 r_1.2.2).bind fun r_4=>
  iw (r_ d0 r) ((IntKind.i64.wrap (1+r_4.1)),r_4.2.1,r_4.2.2,[])
instance MO{d0:gv}{d1:Int}{d2:Int}:iR (pS d0 d1 d2) fun rr=>iC Tryz.prog 13 [.ptr 0 0] [(0,.obj 77 [.d (ia 1 (kD .u8) d0),.d (iD d1),.d (.lit (.int .u64 d2))])] 1 fun xx ss=>xx=.d (.agg [ia 1 iD rr.1.1,ia 2 g_ rr.1.2])/\ss=[(0,.obj 77 [.d (ia 1 (kD .u8) d0),.d (iD rr.2.1),.d (.lit (.int .u64 rr.2.2))])]:=⟨@fun rr h=>by
 delta pS at h;refine ZI.lO (gZ ?_);delta XX;refine iN ?_;refine rC h fun r hr h=>?_
 refine rB [(0,0)] [] h fun r_1 hr_1 h=>?_
 refine it h (fun hc h=>?_) fun hc h=>?_
 ·refine rB [(0,0)] [] h fun r_2 hr_2 h=>?_
  refine rC h fun r_3 hr_3 h=>?_
  cases h;exact⟨[2,3],by simp,mT,mT⟩
 refine rB [(0,0)] [] h fun r_4 hr_4 h=>?_
 refine um h [4,18,19,20,21,22,23,24,25,26,27,28] (fun pp=>[(4,.d (iD pp.1))]) (fun pp=>[(0,.obj 77 [.d (ia 1 (kD .u8) d0),.d (iD pp.2.1),.d (.lit (.int .u64 pp.2.2.1))]),(2,.obj 33 [.d (.sl 0 (some true) []),.d (.sl 0 (some true) [])]),(3,.obj 33 [.d (ia 1 iD r),.own 2 27 (List.map g_ pp.2.2.2)]),(27,.tok 81 2 pp.2.2.2.length)]) ?_ ?_
 ·try dsimp only
  refine(iL.xC 3 1 27 81 2 rfl rfl rfl).trans ?_;exact wk
 rintro⟨k,d,d_1,sys⟩ t1 h hb1;unfold r_ at h;try dsimp only at h
 refine gZ (iN ?_);refine it h (fun hc h=>?_) fun hc h=>?_
 ·refine UL [(0,0)] [] h fun r_5 hr_5 h=>?_
  refine j_ h fun hp h=>?_
  refine jV (by kernel_rfl) (iN ?_);cases h;refine⟨_,rfl,?_⟩;refine(iL.drop 26 gY).trans ?_;exact wk
 replace h:=iZ h hb1;cases h;exact⟨[2,3,27],by simp,mT,mT⟩⟩
def mc4:ie:=
 (.seq (.h_ (sq 2 [mb false])) (.seq (.seq (.h_ (sq 14 [mv 0,cf 11 [14]])) (.cond (t0 15) (.seq (.h_ (sq 2 [mb true])) .ret) .skip)) (.seq (.h_ (sq 16 [mv 0,.kA 12 [(t0 16),(.const (.int .u64 954))]]++sq 3 [mv 17])) (.seq (.h_ (sq 18 [mv 3,cf 13 [18]]++sq 4 [.alloc 4 33 [.sl 0 (some true) [],.sl 0 (some true) []]]++s0 (sr 2 4 19))) (.seq (.h_ (sq 20 [mv 3,.kA 14 [(t0 20),(i0 4)],.bin .add (i0 1) (t0 21)]++sq 5 [mv 22])) (.seq (.h_ (sq 24 [la 2 4,cf 15 [24]]++sq 23 [mv 25]++sq 26 [ex 23 0,ex 23 1]++sq 6 [mv 26,mv 27])) (.seq (.h_ (sq 28 [la 2 4,mv 5,cf 16 [28,29]]++sq 8 [mv 30])) (.seq (.h_ (sq 9 [mi 0])) (.seq (.seq (.h_ (sq 10 [mi 0])) (.block 0 (.loop (.seq (.seq (.h_ (sq 31 [mv 10,mv 6,ln 32,bn .lss 31 33,mv 34]++sg 35 true 36 [mv 7]++sq 37 [pa 35 36])) (.cond (t0 37) .skip (.exit 0))) (.seq (.block 1 (.seq (.draw (sq 41 [la 2 4,mv 6,mv 10,ix 6 42 43,la 6 44,mv 5,cf 17 [41,45,46]]++sq 40 [mv 47]++sq 48 [ex 40 0,ex 40 1,ex 40 2]++sq 11 [.alloc 11 50 [.sl 0 (some true) [],.sl 0 (some true) []],.alloc 12 50 [.sl 0 (some true) [],.sl 0 (some true) []]]++s0 (sr 2 11 48)++s0 (sr 2 12 49)++sq 13 [mv 50]) [[],[],[],[1,2],[3],[],[0,4,5],[6],[7],[7],[7],[],[],[11,8,6,0,1,2,3,4,5,6,7,8,11,12],[12,9,13,0,1,2,3,4,5,6,7,8,9,11,12,13],[10,14,0,1,2,3,4,5,6,7,8,9,10,11,12,13,14]]) (.seq (.seq (.draw (sq 51 [mv 13,mv 51]++sg 52 true 53 [la 2 4,la 2 11,cf 18 [53,54],nt 55,mv 56]++sg 57 false 58 [la 2 4,la 2 12,cf 18 [58,59],nt 60]++sg 52 true 62 [po 57 61,mv 62]++sg 63 false 64 [la 2 4,la 2 11,cf 20 [64,65],la 2 4,la 2 12,cf 20 [67,68],cf 19 [66,69],nt 70]++sg 52 true 72 [po 63 71,mv 72]++sg 73 false 74 [fa 0 11,ld 74,mv 6,mv 10,ix 6 76 77,fa 1 78,ld 79,cf 19 [75,80],nt 81]++sg 52 true 83 [po 73 82]++sq 84 [pa 52 83]) [[],[0],[1],[1],[2,3,1,1],[4,1],[5,4,1],[6],[6],[7,8,6,6],[9,6],[6,10,1],[11,9,1],[12],[12],[13,14,12,12],[12],[12],[16,17,15,12],[15,18,18,12],[19,12],[12,20,1],[21,19,1],[22],[23,22],[22],[22],[25,26,22],[27,22],[28,22],[24,29,22,22],[30,22],[22,31,1],[1,32]]) (.cond (t0 84) (.seq (.h_ (sq 2 [mb false])) .ret) .skip)) (.seq (.h_ (sq 85 [mv 13,nt 85])) (.cond (t0 86) (.seq (.seq (.draw (sq 87 [mv 9,mv 8,ln 88,bn .geq 87 89,mv 90]++sg 91 false 92 [mv 8,mv 9,ix 6 92 93,la 6 94,mv 6,mv 10,ix 6 96 97,la 6 98,cf 21 [95,99],nt 100]++sq 102 [po 91 101]) [[],[],[1],[0,2],[3],[4],[4],[5,6,4],[7,4],[4],[4],[9,10,4],[11,4],[8,12,4,4],[13,4],[4,14]]) (.cond (t0 102) (.seq (.h_ (sq 2 [mb false])) .ret) .skip)) (.h_ (sq 103 [mv 9,bi .add 103 1]++sq 9 [mv 104]))) .skip))))) (.h_ (sq 38 [mv 10,bi .add 38 1]++sq 10 [mv 39]))))))) (.seq (.h_ (sq 105 [mv 9,mv 8,ln 106,bn .eql 105 107,mv 108]++sg 109 true 110 [la 2 4,mv 5,cf 9 [110,111],mv 7,mv 113]++sg 114 true 115 [mv 9,bi .eql 115 0]++sg 109 true 117 [pa 114 116,.Eg false (t0 112) (t0 117)]++sq 119 [pa 109 118]++sq 2 [mv 119])) .ret))))))))))
theorem fn4:kH Tryz.prog 4 mc4 120 [.tmp 2]:=mf Tryz.func4 Tryz.ntmps4
def ju(r_2:(gJ×Int×Int))(r_3:gG)(r_4:(gL×Bool))(r_5:gL):gO->Option (gO⊕Bool)
 |(n,i)=>
  if(decide (i<(r_4.1.length:Int)))=true then
   if r_4.2=true then
    if 0<=i/\i<(r_4.1.length:Int)then
     (mJ r_2.1 ((r_4.1.getD i.toNat default).1,(r_4.1.getD i.toNat default).2.1,(r_4.1.getD i.toNat default).2.2.1,(r_4.1.getD i.toNat default).2.2.2.1,(r_4.1.getD i.toNat default).2.2.2.2.1,(r_4.1.getD i.toNat default).2.2.2.2.2) (IntKind.i64.wrap (1+r_3.1))).bind fun r_6=>
     if r_6.2.2=true then
      (oC r_2.1 r_6.1).bind fun r_7=>
      if r_7=true then
       (oC r_2.1 r_6.2.1).bind fun r_8=>
       if r_8=true then
        (oQ r_2.1 r_6.1).bind fun r_9=>
        (oQ r_2.1 r_6.2.1).bind fun r_10=>
        (nY r_9 r_10).bind fun r_11=>
        if r_11=true then
         if 0<=i/\i<(r_4.1.length:Int)then
          (nY r_6.1.1 ((r_4.1.getD i.toNat default).2.1)).bind fun r_12=>
          if r_12=true then
           some (.inl (n,(IntKind.i64.wrap (i+1))))
          else
           Option.map Sum.inr (
            some false)
         else none
        else
         Option.map Sum.inr (
          some false)
       else
        Option.map Sum.inr (
         some false)
      else
       Option.map Sum.inr (
        some false)
     else
      if(decide ((r_5.length:Int)<=n))=true then
       Option.map Sum.inr (
        some false)
      else
       if 0<=n/\n<(r_5.length:Int)then
        if 0<=i/\i<(r_4.1.length:Int)then
         (nZ ((r_5.getD n.toNat default).1,(r_5.getD n.toNat default).2.1,(r_5.getD n.toNat default).2.2.1,(r_5.getD n.toNat default).2.2.2.1,(r_5.getD n.toNat default).2.2.2.2.1,(r_5.getD n.toNat default).2.2.2.2.2) ((r_4.1.getD i.toNat default).1,(r_4.1.getD i.toNat default).2.1,(r_4.1.getD i.toNat default).2.2.1,(r_4.1.getD i.toNat default).2.2.2.1,(r_4.1.getD i.toNat default).2.2.2.2.1,(r_4.1.getD i.toNat default).2.2.2.2.2)).bind fun r_13=>
         if r_13=true then
          some (.inl ((IntKind.i64.wrap (n+1)),(IntKind.i64.wrap (i+1))))
         else
          Option.map Sum.inr (
           some false)
        else none
       else none
    else none
   else
    Option.map Sum.inr (
     if(n==(r_5.length:Int))=true then
      (nT r_2.1 (IntKind.i64.wrap (1+r_3.1))).bind fun r_14=>
      some (r_14==false)
     else
      some false)
  else
   Option.map Sum.inr (
    if(n==(r_5.length:Int))=true then
     (nT r_2.1 (IntKind.i64.wrap (1+r_3.1))).bind fun r_15=>
     if r_4.2=true then
      some (r_15==(n==0))
     else
      some (r_15==false)
    else
     some false)
def oo(code:gv):Option Bool:=
 (xE code).bind fun r=>
 if r=true then
  some true
 else
  (sA code 954).bind fun r_1=>
  (pS r_1.1 r_1.2.1 r_1.2.2).bind fun r_2=>
  (iH 4 r_1.1 r_2.2.1 r_2.2.2).bind fun r_3=>
  (qw r_2.1).bind fun r_4=>
  (oh r_2.1 (IntKind.i64.wrap (1+r_3.1))).bind fun r_5=>
  iw (ju r_2 r_3 r_4 r_5) (0,0)
instance yG{code:gv}:iR (oo code) fun rr=>jU Tryz.prog 4 [(ia 1 (kD .u8)) code] (bD rr):=⟨@fun rr h=>by
 delta oo at h;refine fn4.jC (gZ ?_);delta mc4;refine iN ?_;refine rC h fun r hr h=>?_
 refine iF h fun hc h=>?_
 refine rB [] [(15,17)] h fun r_1 hr_1 h=>?_
 refine rB [(0,17)] [] h fun r_2 hr_2 h=>?_
 refine rB [(0,17)] [] h fun r_3 hr_3 h=>?_
 refine R8 h fun r_4 hr_4 h=>?_
 refine rC h fun r_5 hr_5 h=>?_
 refine kT h [2,9,10,11,12,13,31,32,33,34,35,36,37,38,39,40,41,42,43,44,45,46,47,48,49,50,51,52,53,54,55,56,57,58,59,60,61,62,63,64,65,66,67,68,69,70,71,72,73,74,75,76,77,78,79,80,81,82,83,84,85,86,87,88,89,90,91,92,93,94,95,96,97,98,99,100,101,102,103,104] (fun pp=>[(9,.d (iD pp.1)),(10,.d (iD pp.2))]) (fun pp=>[(4,.obj 33 [.d (ia 1 iD r_2.1.1),.d (ia 2 g_ r_2.1.2)]),(17,.obj 77 [.d (ia 1 (kD .u8) r_1.1),.d (iD r_3.2.1),.d (.lit (.int .u64 r_3.2.2))])]) ?_;rintro⟨n,i⟩ t1 h hb1;unfold ju at h;try dsimp only at h
 refine gZ (iN ?_);refine iT h fun hc h=>?_
 refine iT h fun hc h=>?_
 refine j_ h fun hp h=>?_
 refine ZC h fun r_6 hr_6 h=>?_
 refine jV (by kernel_rfl) (iN ?_);refine it h (fun hc h=>?_) fun hc h=>?_
 ·refine dC h fun r_7 hr_7 h=>?_
  refine iT h fun hc h=>?_
  refine dC h fun r_8 hr_8 h=>?_
  refine iT h fun hc h=>?_
  refine dC h fun r_9 hr_9 h=>?_
  refine dC h fun r_10 hr_10 h=>?_
  refine dC h fun r_11 hr_11 h=>?_
  refine iT h fun hc h=>?_
  refine j_ h fun hp h=>?_
  refine dC h fun r_12 hr_12 h=>?_
  refine jV (by kernel_rfl) (iN ?_);refine iT h fun hc h=>?_
  cases h;refine⟨_,rfl,?_⟩;refine(iL.drop 11 gY).trans ?_;refine(iL.drop 12 gY).trans ?_;exact wk
 refine jV (by kernel_rfl) (iN ?_);refine iF h fun hc h=>?_
 refine j_ h fun hp h=>?_
 refine j_ h fun hp h=>?_
 refine dC h fun r_13 hr_13 h=>?_
 refine jV (by kernel_rfl) (iN ?_);refine iT h fun hc h=>?_
 cases h;refine⟨_,rfl,?_⟩;refine(iL.drop 11 gY).trans ?_;refine(iL.drop 12 gY).trans ?_;exact wk⟩
end Go.Proofs.YtjgbnaihpicpgaaGreatDoor
