/- A part of the proof about FnUnravelled (U5). -/
import Derived.Test.YtelhemjlfkbkeaaGreatUd
import Derived.Test.YtelhemjlfkbkeaaGreatUg
import Derived.Test.YtelhemjlfkbkeaaGreatUj
set_option linter.all false
noncomputable section
namespace Go.Proofs.YtelhemjlfkbkeaaGreat
open Go oe
attribute [local irreducible] xL zb yK oW pM sV pO Er FY CG FX Cg yg pT rE EZ jr oN
set_option maxHeartbeats 4000000
set_option maxRecDepth 4000
structure Cd where
 v:Value
 l:fI
def WI:gR:=
 (.seq (.gz (sq 2 [.mv (.const (.pointer none))])) (.seq (.gz (sq 5 [mv 0,ln 5,.bin .add (i0 570029) (t0 6)]++sq 3 [mv 7])) (.seq (.seq (.gz (sq 4 [mi 0])) (.block 0 (.loop (.seq (.seq (.gz (sq 8 [mv 4,mv 0,ln 9,bn .lss 8 10])) (.cond (t0 11) .skip (.exit 0))) (.seq (.block 1 (.gz (sq 14 [mv 3,bi .mul 14 317,mv 0,mv 4,ix 1 16 17,ld 18,.conv .i64 (t0 19),bn .add 15 20,bi .add 21 11,bi .and 22 1073741823]++sq 3 [mv 23]))) (.gz (sq 12 [mv 4,bi .add 12 1]++sq 4 [mv 13]))))))) (.seq (.gz (sq 24 [mv 0,mv 3,.build [.sl 0 (some true) [],.lit (.int .i64 0),.lit (.int .i64 0)] [(0,1,(t0 24)),(2,1,(t0 25))],bo 27 75 26]++sq 2 [mv 27])) .ret))))
theorem YS:lE Tryz.prog 16 WI 28 [.tmp 2]:=mf Tryz.func16 Tryz.ntmps16
def vM(code:fI):fT->Option (fT⊕fL)
 |(h',i)=>
  if(decide (i<(code.length:Int)))=true then
   if 0<=i/\i<(code.length:Int)then
    some (.inl ((Dc .i64 (IntKind.i64.wrap ((IntKind.i64.wrap ((IntKind.i64.wrap (h'*317))+(IntKind.i64.wrap (code.getD i.toNat default))))+11)) 1073741823),(IntKind.i64.wrap (i+1))))
   else none
  else
   Option.map Sum.inr (
    some (code,0,h'))
def ug(code:fI):Option fL:=
 gI (vM code) ((IntKind.i64.wrap (570029+(code.length:Int))),0)
instance Ry{c0:Cd}:iH (ug c0.l) fun rr=>hY Tryz.prog 16 [.nm c0.v 1 (List.map (kD .u8) c0.l)] [] 0 fun xx ss=>xx=.ptr 27 0/\ss=[(27,.obj 75 [.nm c0.v 1 (List.map (kD .u8) c0.l),.d (iD rr.2.1),.d (iD rr.2.2)])]:=⟨@fun rr h=>by
 delta ug at h;refine YS.nN (gv ?_);delta WI;refine iL ?_;refine jV h [3,4,8,9,10,11,12,13,14,15,16,17,18,19,20,21,22,23] (fun pp=>[(3,.d (iD pp.1)),(4,.d (iD pp.2))]) (fun pp=>[]) ?_;rintro⟨h',i⟩ t1 h hb1;unfold vM at h;try dsimp only at h
 refine gv (iL ?_);exact od⟩
def XF:gR:=
 (.seq (.gz (sq 2 [mi 0])) (.seq (.gz (sq 4 [mv 0,mv 0,.rI (t0 5),fa 2 6,ld 7,bi .mul 8 6364136223846793005,bi .add 9 1442695040888963407,.rI (t0 4),fa 2 11]++s0 (sr 1 12 10))) (.seq (.draw (sq 13 [mv 0,.rI (t0 13),fa 2 14,ld 15,.bin .shr (t0 16) (.const (.int .u64 33)),mv 0,.rI (t0 18),fa 2 19,ld 20,.bin .shr (t0 21) (.const (.int .u64 45)),bn .xor 17 22,bi .and 23 255]++sq 3 [mv 24]) [[],[0],[1],[2],[3],[],[5],[6],[7],[8],[4,9],[10],[11,0,1,2,3,4,5,6,7,8,9,10,11]]) (.seq (.seq (.draw (sq 25 [mv 0,.rI (t0 25),fa 1 26,ld 27,mv 0,.rI (t0 29),fa 0 30,ld 31,ln 32,bn .lss 28 33]) [[],[0],[1],[2],[],[4],[5],[6],[7],[3,8]]) (.cond (t0 34) (.seq (.draw (sq 35 [mv 3,mv 0,.rI (t0 36),fa 0 37,ld 38,mv 0,.rI (t0 40),fa 1 41,ld 42,ix 1 39 43,ld 44,.conv .i64 (t0 45),bn .add 35 46,bi .and 47 255]++sq 3 [mv 48]) [[],[],[1],[2],[3],[],[5],[6],[7],[4,8],[9],[10],[0,11],[12],[13,0,1,2,3,4,5,6,7,8,9,10,11,12,13]]) (.gz (sq 49 [mv 0,mv 0,.rI (t0 50),fa 1 51,ld 52,bi .add 53 1,.rI (t0 49),fa 1 55]++s0 (sr 1 56 54)))) .skip)) (.seq (.gz (sq 57 [mv 3]++sq 2 [mv 57])) .ret)))))
theorem ZJ:lE Tryz.prog 82 XF 58 [.tmp 2]:=mf Tryz.func82 Tryz.ntmps82
def nI(c0:fI)(c1:Int)(c2:Int):Option (Int×Int×Int):=
 if(decide (c1<(c0.length:Int)))=true then
  if 0<=c1/\c1<(c0.length:Int)then
   some ((Dc .i64 (IntKind.i64.wrap ((Dc .i64 (Ng .i64 (Iw .i64 (IntKind.i64.wrap ((IntKind.i64.wrap (c2*6364136223846793005))+1442695040888963407)) 33) (Iw .i64 (IntKind.i64.wrap ((IntKind.i64.wrap (c2*6364136223846793005))+1442695040888963407)) 45)) 255)+(IntKind.i64.wrap (c0.getD c1.toNat default)))) 255),(IntKind.i64.wrap (c1+1)),(IntKind.i64.wrap ((IntKind.i64.wrap (c2*6364136223846793005))+1442695040888963407)))
  else none
 else
  some ((Dc .i64 (Ng .i64 (Iw .i64 (IntKind.i64.wrap ((IntKind.i64.wrap (c2*6364136223846793005))+1442695040888963407)) 33) (Iw .i64 (IntKind.i64.wrap ((IntKind.i64.wrap (c2*6364136223846793005))+1442695040888963407)) 45)) 255),c1,(IntKind.i64.wrap ((IntKind.i64.wrap (c2*6364136223846793005))+1442695040888963407)))
instance QS{c0:Cd}{c1:Int}{c2:Int}:iH (nI c0.l c1 c2) fun rr=>hY Tryz.prog 82 [.ptr 0 0] [(0,.obj 75 [.nm c0.v 1 (List.map (kD .u8) c0.l),.d (iD c1),.d (iD c2)])] 1 fun xx ss=>xx=.d (iD rr.1)/\ss=[(0,.obj 75 [.nm c0.v 1 (List.map (kD .u8) c0.l),.d (iD rr.2.1),.d (iD rr.2.2)])]:=⟨@fun rr h=>by
 delta nI at h;refine ZJ.nN (gv ?_);delta XF;refine iL ?_;exact od⟩
def W3:gR:=
 (.seq (.gz (sq 4 [mi 0])) (.seq (.seq (.gz (sq 9 [mv 1,bi .leq 9 0])) (.cond (t0 10) (.seq (.gz (sq 4 [mi 0])) .ret) .skip)) (.seq (.seq (.gz (sq 11 [mv 1,bi .leq 11 256])) (.cond (t0 12) (.seq (.gz (sq 13 [mv 0,cf 82 [13],mv 1,bn .rem 14 15]++sq 4 [mv 16])) .ret) .skip)) (.seq (.gz (sq 17 [mv 0,cf 82 [17]]++sq 5 [mv 18])) (.seq (.gz (sq 19 [mv 0,cf 82 [19]]++sq 6 [mv 20])) (.seq (.gz (sq 21 [mv 0,cf 82 [21]]++sq 7 [mv 22])) (.seq (.gz (sq 23 [mv 0,cf 82 [23]]++sq 8 [mv 24])) (.seq (.gz (sq 25 [mv 5,bi .mul 25 16777216,mv 6,bi .mul 27 65536,bn .add 26 28,mv 7,bi .mul 30 256,bn .add 29 31,mv 8,bn .add 32 33,mv 1,bn .rem 34 35]++sq 4 [mv 36])) .ret))))))))
theorem Zb:lE Tryz.prog 39 W3 37 [.tmp 4]:=mf Tryz.func39 Tryz.ntmps39
def gF(n:Int)(c0:fI)(c1:Int)(c2:Int):Option (Int×Int×Int):=
 if(decide (n<=0))=true then
  some (0,c1,c2)
 else
  if(decide (n<=256))=true then
   (nI c0 c1 c2).bind fun r=>
   if n≠0 then
    some ((r.1.tmod n),r.2.1,r.2.2)
   else none
  else
   (nI c0 c1 c2).bind fun r_1=>
   (nI c0 r_1.2.1 r_1.2.2).bind fun r_2=>
   (nI c0 r_2.2.1 r_2.2.2).bind fun r_3=>
   (nI c0 r_3.2.1 r_3.2.2).bind fun r_4=>
   if n≠0 then
    some (((IntKind.i64.wrap ((IntKind.i64.wrap ((IntKind.i64.wrap ((IntKind.i64.wrap (r_1.1*16777216))+(IntKind.i64.wrap (r_2.1*65536))))+(IntKind.i64.wrap (r_3.1*256))))+r_4.1)).tmod n),r_4.2.1,r_4.2.2)
   else none
instance Oa{n:Int}{c0:Cd}{c1:Int}{c2:Int}:iH (gF n c0.l c1 c2) fun rr=>hY Tryz.prog 39 [.ptr 0 0,.d (iD n)] [(0,.obj 75 [.nm c0.v 1 (List.map (kD .u8) c0.l),.d (iD c1),.d (iD c2)])] 1 fun xx ss=>xx=.d (iD rr.1)/\ss=[(0,.obj 75 [.nm c0.v 1 (List.map (kD .u8) c0.l),.d (iD rr.2.1),.d (iD rr.2.2)])]:=⟨@fun rr h=>by
 delta gF at h;refine Zb.nN (gv ?_);delta W3;refine iL ?_;refine iF h fun hc h=>?_
 refine it h (fun hc h=>?_) fun hc h=>?_
 ·refine mA [(0,0)] [] h fun r hr h=>?_
  exact od
 refine mA [(0,0)] [] h fun r_1 hr_1 h=>?_
 refine mA [(0,0)] [] h fun r_2 hr_2 h=>?_
 refine mA [(0,0)] [] h fun r_3 hr_3 h=>?_
 refine mA [(0,0)] [] h fun r_4 hr_4 h=>?_
 exact od⟩
def W4:gR:=
 (.seq (.gz (sq 4 [mb false])) (.seq (.gz (sq 5 [mv 0,mv 1,cf 39 [5,6],bi .eql 7 0]++sq 4 [mv 8])) .ret))
theorem Zc:lE Tryz.prog 40 W4 9 [.tmp 4]:=mf Tryz.func40 Tryz.ntmps40
def iC(n:Int)(c0:fI)(c1:Int)(c2:Int):Option fU:=
 (gF n c0 c1 c2).bind fun r=>
 some ((r.1==0),r.2.1,r.2.2)
instance QW{n:Int}{c0:Cd}{c1:Int}{c2:Int}:iH (iC n c0.l c1 c2) fun rr=>hY Tryz.prog 40 [.ptr 0 0,.d (iD n)] [(0,.obj 75 [.nm c0.v 1 (List.map (kD .u8) c0.l),.d (iD c1),.d (iD c2)])] 1 fun xx ss=>xx=.d (bD rr.1)/\ss=[(0,.obj 75 [.nm c0.v 1 (List.map (kD .u8) c0.l),.d (iD rr.2.1),.d (iD rr.2.2)])]:=⟨@fun rr h=>by
 delta iC at h;refine Zc.nN (gv ?_);delta W4;refine iL ?_;refine mA [(0,0)] [] h fun r hr h=>?_
 exact od⟩
def Ph:gR:=
 (.seq (.gz (sq 2 [.alloc 2 26 [.sl 0 (some true) []]])) (.seq (.gz (sq 5 [.mH 5 2 1 [(i0 2),(i0 1),(i0 0)],.build [.sl 0 (some true) []] [(0,1,(t0 5))]]++sq 3 [.alloc 3 26 [.sl 0 (some true) []]]++s0 (sr 1 3 6))) (.seq (.seq (.gz (sq 7 [mv 0,.ji 40 [(t0 7),(i0 4)]])) (.cond (t0 8) (.seq (.gz (sq 9 [.mH 9 2 1 [(i0 0)],.build [.sl 0 (some true) []] [(0,1,(t0 9))]]++s0 (sr 1 3 10))) (.seq (.gz (sq 11 [mv 0,.ji 39 [(t0 11),(i0 4)]]++sq 4 [mv 12])) (.block 0 (.loop (.seq (.seq (.gz (sq 13 [mv 4,bi .gtr 13 0])) (.cond (t0 14) .skip (.exit 0))) (.seq (.block 1 (.draw (sq 17 [fa 0 3,ld 17,mv 0,.ji 39 [(t0 19),(i0 3)],.mH 21 2 1 [(t0 20)],ap 22 2 1 8 18 21,fa 0 3]++s0 (sr 1 23 22)) [[],[0],[],[2],[3],[1,4,3],[0,1,2,3,4,5],[6,5,5,0,1,2,3,4,5]])) (.gz (sq 15 [mv 4,bi .sub 15 1]++sq 4 [mv 16])))))))) .skip)) (.seq (.gz (sq 24 [la 1 3]++s0 (sr 1 2 24))) .ret))))
theorem To:lE Tryz.prog 109 Ph 25 [.cell 2 1 true]:=mf Tryz.func109 Tryz.ntmps109
def vX(c0:fI):fS->Option (fS⊕fL)
 |(n,c,c_1,sig)=>
  if(decide (0<n))=true then
   (gF 3 c0 c c_1).bind fun r_2=>
   if(sig.length+1)*8<=140737488355328 then
    some (.inl ((IntKind.i64.wrap (n-1)),r_2.2.1,r_2.2.2,(sig++[r_2.1])))
   else none
  else
   Option.map Sum.inr (
    some (sig,c,c_1))
def rU(c0:fI)(c1:Int)(c2:Int):Option fL:=
 (iC 4 c0 c1 c2).bind fun r=>
 if r.1=true then
  (gF 4 c0 r.2.1 r.2.2).bind fun r_1=>
  gI (vX c0) (r_1.1,r_1.2.1,r_1.2.2,[0])
 else
  some ([2,1,0],r.2.1,r.2.2)
instance L4{c0:Cd}{c1:Int}{c2:Int}:iH (rU c0.l c1 c2) fun rr=>hY Tryz.prog 109 [.ptr 0 0] [(0,.obj 75 [.nm c0.v 1 (List.map (kD .u8) c0.l),.d (iD c1),.d (iD c2)])] 1 fun xx ss=>xx=.d (.agg [gN 1 iD rr.1])/\ss=[(0,.obj 75 [.nm c0.v 1 (List.map (kD .u8) c0.l),.d (iD rr.2.1),.d (iD rr.2.2)])]:=⟨@fun rr h=>by
 delta rU at h;refine To.nN (gv ?_);delta Ph;refine iL ?_;refine mA [(0,0)] [] h fun r hr h=>?_
 refine it h (fun hc h=>?_) fun hc h=>?_
 ·refine mA [(0,0)] [] h fun r_1 hr_1 h=>?_
  refine jV h [4,13,14,15,16,17,18,19,20,21,22,23] (fun pp=>[(4,.d (iD pp.1))]) (fun pp=>[(0,.obj 75 [.nm c0.v 1 (List.map (kD .u8) c0.l),.d (iD pp.2.1),.d (iD pp.2.2.1)]),(2,.obj 26 [.d (.sl 0 (some true) [])]),(3,.obj 26 [.own 1 9 (List.map iD pp.2.2.2)]),(5,.tok 2 1 3),(9,.tok 2 1 pp.2.2.2.length)]) ?_;rintro⟨n,c,c_1,sig⟩ t1 h hb1;unfold vX at h;try dsimp only at h
  refine gv (iL ?_);refine it h (fun hc h=>?_) fun hc h=>?_
  ·refine wu [(0,0)] [] h fun r_2 hr_2 h=>?_
   refine kz h fun hp h=>?_
   refine jo (by kernel_rfl) (iL ?_);cases h;refine⟨_,rfl,?_⟩;refine(iB.drop 21 gu).trans ?_;exact wk
  replace h:=g_ h hb1;cases h;exact⟨[2,3,5,9],by simp,lC,lC⟩
 cases h;exact⟨[2,3,5],by simp,lC,lC⟩⟩
def US:gR:=
 (.seq (.gz (sq 5 [bo 5 26 1]++sq 8 [.mv (.const (.slice none 0 0))])) (.seq (.seq (.gz (sq 13 [mv 2,bi .leq 13 1,mv 14]++sg 15 false 16 [mv 0,.ji 40 [(t0 16),(i0 4)]]++sq 18 [po 15 17])) (.cond (t0 18) (.seq (.seq (.gz (sq 19 [mv 3,bi .gtr 19 0,mv 20]++sg 21 true 22 [mv 0,.ji 40 [(t0 22),(i0 2)]]++sq 24 [pa 21 23])) (.cond (t0 24) (.seq (.gz (sq 25 [mv 0,mv 3,cf 39 [25,26],.bin .sub (i0 (-1)) (t0 27),.mH 29 2 1 [(t0 28)]]++sq 8 [mv 29])) .ret) .skip)) (.seq (.seq (.gz (sq 30 [fa 0 5,ld 30,ln 31,bi .sub 32 1]++sq 9 [mv 33])) (.block 0 (.loop (.seq (.seq (.gz (sq 34 [mv 9,bi .geq 34 0])) (.cond (t0 35) .skip (.exit 0))) (.seq (.block 1 (.seq (.gz (sq 38 [fa 0 5,ld 38,mv 9,ix 1 39 40,ld 41,bi .eql 42 0])) (.cond (t0 43) (.seq (.gz (sq 44 [mv 9,.mH 45 2 1 [(t0 44)]]++sq 8 [mv 45])) .ret) .skip))) (.gz (sq 36 [mv 9,bi .sub 36 1]++sq 9 [mv 37]))))))) (.seq (.gz (sq 46 [.mH 46 2 1 [(i0 (-1))]]++sq 8 [mv 46])) .ret))) .skip)) (.seq (.gz (sq 47 [mv 0,fa 0 5,ld 48,ln 49,cf 39 [47,50]]++sq 10 [mv 51])) (.seq (.gz (sq 52 [mv 10,.mH 53 2 1 [(t0 52)]]++sq 11 [mv 53])) (.seq (.seq (.gz (sq 54 [fa 0 5,ld 54,mv 10,ix 1 55 56,ld 57]++sq 12 [mv 58])) (.block 2 (.loop (.seq (.seq (.gz (sq 59 [mv 12,bi .gtr 59 0])) (.cond (t0 60) .skip (.exit 2))) (.seq (.block 3 (.gz (sq 63 [mv 11,mv 0,la 1 5,mv 2,bi .sub 66 1,mv 3,cf 81 [64,65,67,68],ap 70 2 1 8 63 69]++sq 11 [mv 70]))) (.gz (sq 61 [mv 12,bi .sub 61 1]++sq 12 [mv 62]))))))) (.seq (.gz (sq 71 [mv 11]++sq 8 [mv 71])) .ret))))))
theorem Wq:lE Tryz.prog 81 US 72 [.tmp 8]:=mf Tryz.func81 Tryz.ntmps81
def vh(sig:fI)(r:fU):Int->Option gi
 |f=>
  if(decide (0<=f))=true then
   if 0<=f/\f<(sig.length:Int)then
    if((sig.getD f.toNat default)==0)=true then
     Option.map Sum.inr (
      some ([f],r.2.1,r.2.2))
    else
     some (.inl (IntKind.i64.wrap (f-1)))
   else none
  else
   Option.map Sum.inr (
    some ([(-1)],r.2.1,r.2.2))
def vi(sig:fI)(c1:Int)(c2:Int):Int->Option gi
 |f_1=>
  if(decide (0<=f_1))=true then
   if 0<=f_1/\f_1<(sig.length:Int)then
    if((sig.getD f_1.toNat default)==0)=true then
     Option.map Sum.inr (
      some ([f_1],c1,c2))
    else
     some (.inl (IntKind.i64.wrap (f_1-1)))
   else none
  else
   Option.map Sum.inr (
    some ([(-1)],c1,c2))
def vj(sig:fI)(r_3:fU):Int->Option gi
 |f_2=>
  if(decide (0<=f_2))=true then
   if 0<=f_2/\f_2<(sig.length:Int)then
    if((sig.getD f_2.toNat default)==0)=true then
     Option.map Sum.inr (
      some ([f_2],r_3.2.1,r_3.2.2))
    else
     some (.inl (IntKind.i64.wrap (f_2-1)))
   else none
  else
   Option.map Sum.inr (
    some ([(-1)],r_3.2.1,r_3.2.2))
def vk(sig:fI)(r_2:fU):Int->Option gi
 |f_3=>
  if(decide (0<=f_3))=true then
   if 0<=f_3/\f_3<(sig.length:Int)then
    if((sig.getD f_3.toNat default)==0)=true then
     Option.map Sum.inr (
      some ([f_3],r_2.2.1,r_2.2.2))
    else
     some (.inl (IntKind.i64.wrap (f_3-1)))
   else none
  else
   Option.map Sum.inr (
    some ([(-1)],r_2.2.1,r_2.2.2))
def rz(rec:fI->Int->Int->fI->Int->Int->Option fL)(sig:fI)(depth:Int)(vars:Int)(c0:fI):fY->Option (fY⊕fL)
 |(out,k,c,c_1)=>
  if(decide (0<k))=true then
   (rec sig (IntKind.i64.wrap (depth-1)) vars c0 c c_1).bind fun r_6=>
   if(out.length+r_6.1.length)*8<=140737488355328 then
    some (.inl ((out++r_6.1),(IntKind.i64.wrap (k-1)),r_6.2.1,r_6.2.2))
   else none
  else
   Option.map Sum.inr (
    some (out,c,c_1))
def lZ:Nat->fI->Int->Int->fI->Int->Int->Option fL
 |0,_,_,_,_,_,_=>none
 |fu+1,sig,depth,vars,c0,c1,c2=>
  if(decide (depth<=1))=true then
   if(decide (0<vars))=true then
    (iC 2 c0 c1 c2).bind fun r=>
    if r.1=true then
     (gF vars c0 r.2.1 r.2.2).bind fun r_1=>
     some ([(IntKind.i64.wrap ((-1)-r_1.1))],r_1.2.1,r_1.2.2)
    else
     gI (vh sig r) (IntKind.i64.wrap ((sig.length:Int)-1))
   else
    gI (vi sig c1 c2) (IntKind.i64.wrap ((sig.length:Int)-1))
  else
   (iC 4 c0 c1 c2).bind fun r_2=>
   if r_2.1=true then
    if(decide (0<vars))=true then
     (iC 2 c0 r_2.2.1 r_2.2.2).bind fun r_3=>
     if r_3.1=true then
      (gF vars c0 r_3.2.1 r_3.2.2).bind fun r_4=>
      some ([(IntKind.i64.wrap ((-1)-r_4.1))],r_4.2.1,r_4.2.2)
     else
      gI (vj sig r_3) (IntKind.i64.wrap ((sig.length:Int)-1))
    else
     gI (vk sig r_2) (IntKind.i64.wrap ((sig.length:Int)-1))
   else
    (gF (sig.length:Int) c0 r_2.2.1 r_2.2.2).bind fun r_5=>
    if 0<=r_5.1/\r_5.1<(sig.length:Int)then
     gI (rz (lZ fu) sig depth vars c0) ([r_5.1],(sig.getD r_5.1.toNat default),r_5.2.1,r_5.2.2)
    else none
def iV(sig:fI)(depth:Int)(vars:Int)(c0:fI)(c1:Int)(c2:Int):Option fL:=AA fun fu=>lZ fu sig depth vars c0 c1 c2
theorem xh:∀{fu:Nat}{sig:fI}{depth:Int}{vars:Int}{c0:Cd}{c1:Int}{c2:Int}{rr:fL}(h:lZ fu sig depth vars c0.l c1 c2=some rr),hY Tryz.prog 81 [.ptr 0 0,.d (.agg [gN 1 iD sig]),.d (iD depth),.d (iD vars)] [(0,.obj 75 [.nm c0.v 1 (List.map (kD .u8) c0.l),.d (iD c1),.d (iD c2)])] 1 fun xx ss=>xx=.d (gN 1 iD rr.1)/\ss=[(0,.obj 75 [.nm c0.v 1 (List.map (kD .u8) c0.l),.d (iD rr.2.1),.d (iD rr.2.2)])]
 |0,_,_,_,_,_,_,_,h=>by cases h
 |fu+1,sig,depth,vars,c0,c1,c2,rr,h=>by
  have ih:∀{sig:fI}{depth:Int}{vars:Int}{c0:Cd}{c1:Int}{c2:Int},iH (lZ fu sig depth vars c0.l c1 c2) fun rr=>hY Tryz.prog 81 [.ptr 0 0,.d (.agg [gN 1 iD sig]),.d (iD depth),.d (iD vars)] [(0,.obj 75 [.nm c0.v 1 (List.map (kD .u8) c0.l),.d (iD c1),.d (iD c2)])] 1 fun xx ss=>xx=.d (gN 1 iD rr.1)/\ss=[(0,.obj 75 [.nm c0.v 1 (List.map (kD .u8) c0.l),.d (iD rr.2.1),.d (iD rr.2.2)])]:=⟨fun h=>xh h⟩
  unfold lZ at h;refine Wq.nN (gv ?_);delta US;refine iL ?_;refine it h (fun hc h=>?_) fun hc h=>?_
  ·refine it h (fun hc h=>?_) fun hc h=>?_
   ·refine mA [(0,0)] [] h fun r hr h=>?_
    refine it h (fun hc h=>?_) fun hc h=>?_
    ·refine mA [(0,0)] [] h fun r_1 hr_1 h=>?_
     cases h;exact⟨[5,29],by simp,lC,lC⟩
    refine jV h [8,9,34,35,36,37,38,39,40,41,42,43,44,45] (fun pp=>[(9,.d (iD pp))]) (fun pp=>[(0,.obj 75 [.nm c0.v 1 (List.map (kD .u8) c0.l),.d (iD r.2.1),.d (iD r.2.2)]),(5,.obj 26 [.d (gN 1 iD sig)])]) ?_;rintro f t1 h hb1;unfold vh at h;try dsimp only at h
    refine gv (iL ?_);refine it h (fun hc h=>?_) fun hc h=>?_
    ·refine kz h fun hp h=>?_
     refine iT h fun hc h=>?_
     replace h:=g_ h hb1;cases h;exact⟨[5,45],by simp,lC,lC⟩
    replace h:=g_ h hb1;cases h;exact⟨[5,46],by simp,lC,lC⟩
   refine jV h [8,9,34,35,36,37,38,39,40,41,42,43,44,45] (fun pp=>[(9,.d (iD pp))]) (fun pp=>[(0,.obj 75 [.nm c0.v 1 (List.map (kD .u8) c0.l),.d (iD c1),.d (iD c2)]),(5,.obj 26 [.d (gN 1 iD sig)])]) ?_;rintro f_1 t1 h hb1;unfold vi at h;try dsimp only at h
   refine gv (iL ?_);refine it h (fun hc h=>?_) fun hc h=>?_
   ·refine kz h fun hp h=>?_
    refine iT h fun hc h=>?_
    replace h:=g_ h hb1;cases h;exact⟨[5,45],by simp,lC,lC⟩
   replace h:=g_ h hb1;cases h;exact⟨[5,46],by simp,lC,lC⟩
  refine mA [(0,0)] [] h fun r_2 hr_2 h=>?_
  refine it h (fun hc h=>?_) fun hc h=>?_
  ·refine it h (fun hc h=>?_) fun hc h=>?_
   ·refine mA [(0,0)] [] h fun r_3 hr_3 h=>?_
    refine it h (fun hc h=>?_) fun hc h=>?_
    ·refine mA [(0,0)] [] h fun r_4 hr_4 h=>?_
     cases h;exact⟨[5,29],by simp,lC,lC⟩
    refine jV h [8,9,34,35,36,37,38,39,40,41,42,43,44,45] (fun pp=>[(9,.d (iD pp))]) (fun pp=>[(0,.obj 75 [.nm c0.v 1 (List.map (kD .u8) c0.l),.d (iD r_3.2.1),.d (iD r_3.2.2)]),(5,.obj 26 [.d (gN 1 iD sig)])]) ?_;rintro f_2 t1 h hb1;unfold vj at h;try dsimp only at h
    refine gv (iL ?_);refine it h (fun hc h=>?_) fun hc h=>?_
    ·refine kz h fun hp h=>?_
     refine iT h fun hc h=>?_
     replace h:=g_ h hb1;cases h;exact⟨[5,45],by simp,lC,lC⟩
    replace h:=g_ h hb1;cases h;exact⟨[5,46],by simp,lC,lC⟩
   refine jV h [8,9,34,35,36,37,38,39,40,41,42,43,44,45] (fun pp=>[(9,.d (iD pp))]) (fun pp=>[(0,.obj 75 [.nm c0.v 1 (List.map (kD .u8) c0.l),.d (iD r_2.2.1),.d (iD r_2.2.2)]),(5,.obj 26 [.d (gN 1 iD sig)])]) ?_;rintro f_3 t1 h hb1;unfold vk at h;try dsimp only at h
   refine gv (iL ?_);refine it h (fun hc h=>?_) fun hc h=>?_
   ·refine kz h fun hp h=>?_
    refine iT h fun hc h=>?_
    replace h:=g_ h hb1;cases h;exact⟨[5,45],by simp,lC,lC⟩
   replace h:=g_ h hb1;cases h;exact⟨[5,46],by simp,lC,lC⟩
  refine mA [(0,0)] [] h fun r_5 hr_5 h=>?_
  refine kz h fun hp h=>?_
  refine jV h [11,12,59,60,61,62,63,64,65,66,67,68,69,70] (fun pp=>[(11,.own 1 53 (List.map iD pp.1)),(12,.d (iD pp.2.1))]) (fun pp=>[(0,.obj 75 [.nm c0.v 1 (List.map (kD .u8) c0.l),.d (iD pp.2.2.1),.d (iD pp.2.2.2)]),(5,.obj 26 [.d (gN 1 iD sig)]),(53,.tok 2 1 pp.1.length)]) ?_;rintro⟨out,k,c,c_1⟩ t1 h hb1;unfold rz at h;try dsimp only at h
  refine gv (iL ?_);refine it h (fun hc h=>?_) fun hc h=>?_
  ·refine mA [(0,0)] [] h fun r_6 hr_6 h=>?_
   exact od
  replace h:=g_ h hb1;cases h;exact⟨[5,53],by simp,lC,lC⟩
instance G1{sig:fI}{depth:Int}{vars:Int}{c0:Cd}{c1:Int}{c2:Int}:iH (iV sig depth vars c0.l c1 c2) fun rr=>hY Tryz.prog 81 [.ptr 0 0,.d (.agg [gN 1 iD sig]),.d (iD depth),.d (iD vars)] [(0,.obj 75 [.nm c0.v 1 (List.map (kD .u8) c0.l),.d (iD c1),.d (iD c2)])] 1 fun xx ss=>xx=.d (gN 1 iD rr.1)/\ss=[(0,.obj 75 [.nm c0.v 1 (List.map (kD .u8) c0.l),.d (iD rr.2.1),.d (iD rr.2.2)])]:=⟨fun h=>xh (rY h).choose_spec⟩
def TM:gR:=
 (.seq (.gz (sq 2 [.mv (.const (.slice none 0 0))])) (.seq (.gz (sq 5 [.mH 5 2 1 []]++sq 3 [mv 5])) (.seq (.seq (.gz (sq 4 [mi 0])) (.block 0 (.loop (.seq (.seq (.gz (sq 6 [mv 4,mv 0,ln 7,bn .lss 6 8])) (.cond (t0 9) .skip (.exit 0))) (.seq (.block 1 (.seq (.gz (sq 12 [mv 0,mv 4,ix 1 12 13,ld 14,bi .lss 15 0,mv 16]++sg 17 true 18 [mv 3,mv 0,mv 4,ix 1 19 20,ld 21,cf 76 [18,22],nt 23]++sq 25 [pa 17 24])) (.cond (t0 25) (.gz (sq 26 [mv 3,mv 0,mv 4,ix 1 27 28,ld 29,.mH 31 2 1 [(t0 30)],ap 32 2 1 8 26 31]++sq 3 [mv 32])) .skip))) (.gz (sq 10 [mv 4,bi .add 10 1]++sq 4 [mv 11]))))))) (.seq (.gz (sq 33 [mv 3]++sq 2 [mv 33])) .ret))))
theorem Wh:lE Tryz.prog 123 TM 34 [.tmp 2]:=mf Tryz.func123 Tryz.ntmps123
def um(t:fI):fO->Option gj
 |(out,i)=>
  if(decide (i<(t.length:Int)))=true then
   if 0<=i/\i<(t.length:Int)then
    if(decide ((t.getD i.toNat default)<0))=true then
     if 0<=i/\i<(t.length:Int)then
      (lV out (t.getD i.toNat default)).bind fun r=>
      if r=true then
       some (.inl (out,(IntKind.i64.wrap (i+1))))
      else
       if 0<=i/\i<(t.length:Int)then
        if(out.length+1)*8<=140737488355328 then
         some (.inl ((out++[(t.getD i.toNat default)]),(IntKind.i64.wrap (i+1))))
        else none
       else none
     else none
    else
     some (.inl (out,(IntKind.i64.wrap (i+1))))
   else none
  else
   Option.map Sum.inr (
    some out)
def mo(t:fI):Option fI:=
 gI (um t) ([],0)
instance Ok{t:fI}:iH (mo t) fun rr=>lz Tryz.prog 123 [(gN 1 iD) t] ((gN 1 iD) rr):=⟨@fun rr h=>by
 delta mo at h;refine Wh.jO (gv ?_);delta TM;refine iL ?_;refine jV h [3,4,6,7,8,9,10,11,12,13,14,15,16,17,18,19,20,21,22,23,24,25,26,27,28,29,30,31,32] (fun pp=>[(3,.own 1 5 (List.map iD pp.1)),(4,.d (iD pp.2))]) (fun pp=>[(5,.tok 2 1 pp.1.length)]) ?_;rintro⟨out,i⟩ t1 h hb1;unfold um at h;try dsimp only at h
 refine gv (iL ?_);refine iT h fun hc h=>?_
 refine kz h fun hp h=>?_
 refine iT h fun hc h=>?_
 refine kz h fun hp h=>?_
 refine rC h fun r hr h=>?_
 refine iF h fun hc h=>?_
 refine kz h fun hp h=>?_
 refine kz h fun hp h=>?_
 cases h;refine⟨_,rfl,?_⟩;refine(iB.drop 31 gu).trans ?_;exact wk⟩
def tR:gR:=
 (.seq (.gz (sq 5 [bo 5 26 1]++sq 8 [.mv (.const (.slice none 0 0))])) (.seq (.seq (.gz (sq 13 [mv 2,bi .leq 13 1,mv 14]++sg 15 false 16 [mv 0,.ji 40 [(t0 16),(i0 4)]]++sq 18 [po 15 17])) (.cond (t0 18) (.seq (.seq (.gz (sq 19 [mv 3,bi .gtr 19 0,mv 20]++sg 21 true 22 [mv 0,.ji 40 [(t0 22),(i0 2)]]++sq 24 [pa 21 23])) (.cond (t0 24) (.seq (.gz (sq 25 [mv 0,mv 3,cf 39 [25,26],.bin .sub (i0 (-1)) (t0 27),.yY 29 2 1 [(t0 28)]]++sq 8 [mv 29])) .ret) .skip)) (.seq (.seq (.gz (sq 30 [fa 0 5,ld 30,ln 31,bi .sub 32 1]++sq 9 [mv 33])) (.block 0 (.loop (.seq (.seq (.gz (sq 34 [mv 9,bi .geq 34 0])) (.cond (t0 35) .skip (.exit 0))) (.seq (.block 1 (.seq (.gz (sq 38 [fa 0 5,ld 38,mv 9,ix 1 39 40,ld 41,bi .eql 42 0])) (.cond (t0 43) (.seq (.gz (sq 44 [mv 9,.yY 45 2 1 [(t0 44)]]++sq 8 [mv 45])) .ret) .skip))) (.gz (sq 36 [mv 9,bi .sub 36 1]++sq 9 [mv 37]))))))) (.seq (.gz (sq 46 [.yY 46 2 1 [(i0 (-1))]]++sq 8 [mv 46])) .ret))) .skip)) (.seq (.gz (sq 47 [mv 0,fa 0 5,ld 48,ln 49,cf 39 [47,50]]++sq 10 [mv 51])) (.seq (.gz (sq 52 [mv 10,.yY 53 2 1 [(t0 52)]]++sq 11 [mv 53])) (.seq (.seq (.gz (sq 54 [fa 0 5,ld 54,mv 10,ix 1 55 56,ld 57]++sq 12 [mv 58])) (.block 2 (.loop (.seq (.seq (.gz (sq 59 [mv 12,bi .gtr 59 0])) (.cond (t0 60) .skip (.exit 2))) (.seq (.block 3 (.gz (sq 63 [mv 11,mv 0,la 1 5,mv 2,bi .sub 66 1,mv 3,cf 81 [64,65,67,68],ap 70 2 1 8 63 69]++sq 11 [mv 70]))) (.gz (sq 61 [mv 12,bi .sub 61 1]++sq 12 [mv 62]))))))) (.seq (.gz (sq 71 [mv 11]++sq 8 [mv 71])) .ret))))))
theorem xX:lE Tryz.prog 81 tR 72 [.tmp 8]:=mf Tryz.func81 Tryz.ntmps81
def tA(sig:fI)(r:fU):Int->Option gi
 |f=>
  if(decide (0<=f))=true then
   if 0<=f/\f<(sig.length:Int)then
    if((sig.getD f.toNat default)==0)=true then
     Option.map Sum.inr (
      some ([f],r.2.1,r.2.2))
    else
     some (.inl (IntKind.i64.wrap (f-1)))
   else none
  else
   Option.map Sum.inr (
    some ([(-1)],r.2.1,r.2.2))
def tB(sig:fI)(c1:Int)(c2:Int):Int->Option gi
 |f_1=>
  if(decide (0<=f_1))=true then
   if 0<=f_1/\f_1<(sig.length:Int)then
    if((sig.getD f_1.toNat default)==0)=true then
     Option.map Sum.inr (
      some ([f_1],c1,c2))
    else
     some (.inl (IntKind.i64.wrap (f_1-1)))
   else none
  else
   Option.map Sum.inr (
    some ([(-1)],c1,c2))
def tC(sig:fI)(r_3:fU):Int->Option gi
 |f_2=>
  if(decide (0<=f_2))=true then
   if 0<=f_2/\f_2<(sig.length:Int)then
    if((sig.getD f_2.toNat default)==0)=true then
     Option.map Sum.inr (
      some ([f_2],r_3.2.1,r_3.2.2))
    else
     some (.inl (IntKind.i64.wrap (f_2-1)))
   else none
  else
   Option.map Sum.inr (
    some ([(-1)],r_3.2.1,r_3.2.2))
def tD(sig:fI)(r_2:fU):Int->Option gi
 |f_3=>
  if(decide (0<=f_3))=true then
   if 0<=f_3/\f_3<(sig.length:Int)then
    if((sig.getD f_3.toNat default)==0)=true then
     Option.map Sum.inr (
      some ([f_3],r_2.2.1,r_2.2.2))
    else
     some (.inl (IntKind.i64.wrap (f_3-1)))
   else none
  else
   Option.map Sum.inr (
    some ([(-1)],r_2.2.1,r_2.2.2))
def qi(sig:fI)(depth:Int)(vars:Int)(c0:fI):fS->Option (fS⊕fL)
 |(k,c,c_1,g53)=>
  if(decide (0<k))=true then
   (iV sig (IntKind.i64.wrap (depth-1)) vars c0 c c_1).bind fun r_6=>
   if(g53.length+r_6.1.length)*8<=140737488355328 then
    some (.inl ((IntKind.i64.wrap (k-1)),r_6.2.1,r_6.2.2,(g53++r_6.1)))
   else none
  else
   Option.map Sum.inr (
    some (g53,c,c_1))
def lI:Nat->fI->Int->Int->fI->Int->Int->Option fL
 |0,_,_,_,_,_,_=>none
 |fu+1,sig,depth,vars,c0,c1,c2=>
  if(decide (depth<=1))=true then
   if(decide (0<vars))=true then
    (iC 2 c0 c1 c2).bind fun r=>
    if r.1=true then
     (gF vars c0 r.2.1 r.2.2).bind fun r_1=>
     some ([(IntKind.i64.wrap ((-1)-r_1.1))],r_1.2.1,r_1.2.2)
    else
     gI (tA sig r) (IntKind.i64.wrap ((sig.length:Int)-1))
   else
    gI (tB sig c1 c2) (IntKind.i64.wrap ((sig.length:Int)-1))
  else
   (iC 4 c0 c1 c2).bind fun r_2=>
   if r_2.1=true then
    if(decide (0<vars))=true then
     (iC 2 c0 r_2.2.1 r_2.2.2).bind fun r_3=>
     if r_3.1=true then
      (gF vars c0 r_3.2.1 r_3.2.2).bind fun r_4=>
      some ([(IntKind.i64.wrap ((-1)-r_4.1))],r_4.2.1,r_4.2.2)
     else
      gI (tC sig r_3) (IntKind.i64.wrap ((sig.length:Int)-1))
    else
     gI (tD sig r_2) (IntKind.i64.wrap ((sig.length:Int)-1))
   else
    (gF (sig.length:Int) c0 r_2.2.1 r_2.2.2).bind fun r_5=>
    if 0<=r_5.1/\r_5.1<(sig.length:Int)then
     gI (qi sig depth vars c0) ((sig.getD r_5.1.toNat default),r_5.2.1,r_5.2.2,[r_5.1])
    else none
def jF(sig:fI)(depth:Int)(vars:Int)(c0:fI)(c1:Int)(c2:Int):Option fL:=AA fun fu=>lI fu sig depth vars c0 c1 c2
theorem vt:∀{fu:Nat}{sig:fI}{depth:Int}{vars:Int}{c0:Cd}{c1:Int}{c2:Int}{rr:fL}(h:lI fu sig depth vars c0.l c1 c2=some rr),hY Tryz.prog 81 [.ptr 0 0,.d (.agg [gN 1 iD sig]),.d (iD depth),.d (iD vars)] [(0,.obj 75 [.nm c0.v 1 (List.map (kD .u8) c0.l),.d (iD c1),.d (iD c2)])] 1 fun xx ss=>xx=.mL 1 900000 rr.1.length/\ss=[(0,.obj 75 [.nm c0.v 1 (List.map (kD .u8) c0.l),.d (iD rr.2.1),.d (iD rr.2.2)]),(900000,.lO 2 1 rr.1.length (jT iD rr.1))]
 |0,_,_,_,_,_,_,_,h=>by cases h
 |fu+1,sig,depth,vars,c0,c1,c2,rr,h=>by
  have ih:∀{sig:fI}{depth:Int}{vars:Int}{c0:Cd}{c1:Int}{c2:Int},iH (lI fu sig depth vars c0.l c1 c2) fun rr=>hY Tryz.prog 81 [.ptr 0 0,.d (.agg [gN 1 iD sig]),.d (iD depth),.d (iD vars)] [(0,.obj 75 [.nm c0.v 1 (List.map (kD .u8) c0.l),.d (iD c1),.d (iD c2)])] 1 fun xx ss=>xx=.mL 1 900000 rr.1.length/\ss=[(0,.obj 75 [.nm c0.v 1 (List.map (kD .u8) c0.l),.d (iD rr.2.1),.d (iD rr.2.2)]),(900000,.lO 2 1 rr.1.length (jT iD rr.1))]:=⟨fun h=>vt h⟩
  unfold lI at h;refine xX.uw (gv ?_);delta tR;refine iL ?_;refine it h (fun hc h=>?_) fun hc h=>?_
  ·refine it h (fun hc h=>?_) fun hc h=>?_
   ·refine mA [(0,0)] [] h fun r hr h=>?_
    refine it h (fun hc h=>?_) fun hc h=>?_
    ·refine mA [(0,0)] [] h fun r_1 hr_1 h=>?_
     cases h;exact gx.trans ((gx.trans (gx.move 29 900000 (ob:=.lO 2 1 1 (jT iD [(IntKind.i64.wrap ((-1)-r_1.1))])) gu gu gu rfl (by first|rfl|(simp;done)|(simp[sat,iG,sset,gS,jv,gJ,Ob.hG,Ob.kill,gw];done))) (gx.iP [5] (by simp)))) (gx.told q_ lC)
    refine jV h [8,9,34,35,36,37,38,39,40,41,42,43,44,45] (fun pp=>[(9,.d (iD pp))]) (fun pp=>[(0,.obj 75 [.nm c0.v 1 (List.map (kD .u8) c0.l),.d (iD r.2.1),.d (iD r.2.2)]),(5,.obj 26 [.d (gN 1 iD sig)])]) ?_;rintro f t1 h hb1;unfold tA at h;try dsimp only at h
    refine gv (iL ?_);refine it h (fun hc h=>?_) fun hc h=>?_
    ·refine kz h fun hp h=>?_
     refine iT h fun hc h=>?_
     replace h:=g_ h hb1;cases h;exact gx.trans ((gx.trans (gx.move 45 900000 (ob:=.lO 2 1 1 (jT iD [f])) gu gu gu rfl (by first|rfl|(simp;done)|(simp[sat,iG,sset,gS,jv,gJ,Ob.hG,Ob.kill,gw];done))) (gx.iP [5] (by simp)))) (gx.told q_ lC)
    replace h:=g_ h hb1;cases h;exact gx.trans ((gx.trans (gx.move 46 900000 (ob:=.lO 2 1 1 (jT iD [(-1)])) gu gu gu rfl (by first|rfl|(simp;done)|(simp[sat,iG,sset,gS,jv,gJ,Ob.hG,Ob.kill,gw];done))) (gx.iP [5] (by simp)))) (gx.told q_ lC)
   refine jV h [8,9,34,35,36,37,38,39,40,41,42,43,44,45] (fun pp=>[(9,.d (iD pp))]) (fun pp=>[(0,.obj 75 [.nm c0.v 1 (List.map (kD .u8) c0.l),.d (iD c1),.d (iD c2)]),(5,.obj 26 [.d (gN 1 iD sig)])]) ?_;rintro f_1 t1 h hb1;unfold tB at h;try dsimp only at h
   refine gv (iL ?_);refine it h (fun hc h=>?_) fun hc h=>?_
   ·refine kz h fun hp h=>?_
    refine iT h fun hc h=>?_
    replace h:=g_ h hb1;cases h;exact gx.trans ((gx.trans (gx.move 45 900000 (ob:=.lO 2 1 1 (jT iD [f_1])) gu gu gu rfl (by first|rfl|(simp;done)|(simp[sat,iG,sset,gS,jv,gJ,Ob.hG,Ob.kill,gw];done))) (gx.iP [5] (by simp)))) (gx.told q_ lC)
   replace h:=g_ h hb1;cases h;exact gx.trans ((gx.trans (gx.move 46 900000 (ob:=.lO 2 1 1 (jT iD [(-1)])) gu gu gu rfl (by first|rfl|(simp;done)|(simp[sat,iG,sset,gS,jv,gJ,Ob.hG,Ob.kill,gw];done))) (gx.iP [5] (by simp)))) (gx.told q_ lC)
  refine mA [(0,0)] [] h fun r_2 hr_2 h=>?_
  refine it h (fun hc h=>?_) fun hc h=>?_
  ·refine it h (fun hc h=>?_) fun hc h=>?_
   ·refine mA [(0,0)] [] h fun r_3 hr_3 h=>?_
    refine it h (fun hc h=>?_) fun hc h=>?_
    ·refine mA [(0,0)] [] h fun r_4 hr_4 h=>?_
     cases h;exact gx.trans ((gx.trans (gx.move 29 900000 (ob:=.lO 2 1 1 (jT iD [(IntKind.i64.wrap ((-1)-r_4.1))])) gu gu gu rfl (by first|rfl|(simp;done)|(simp[sat,iG,sset,gS,jv,gJ,Ob.hG,Ob.kill,gw];done))) (gx.iP [5] (by simp)))) (gx.told q_ lC)
    refine jV h [8,9,34,35,36,37,38,39,40,41,42,43,44,45] (fun pp=>[(9,.d (iD pp))]) (fun pp=>[(0,.obj 75 [.nm c0.v 1 (List.map (kD .u8) c0.l),.d (iD r_3.2.1),.d (iD r_3.2.2)]),(5,.obj 26 [.d (gN 1 iD sig)])]) ?_;rintro f_2 t1 h hb1;unfold tC at h;try dsimp only at h
    refine gv (iL ?_);refine it h (fun hc h=>?_) fun hc h=>?_
    ·refine kz h fun hp h=>?_
     refine iT h fun hc h=>?_
     replace h:=g_ h hb1;cases h;exact gx.trans ((gx.trans (gx.move 45 900000 (ob:=.lO 2 1 1 (jT iD [f_2])) gu gu gu rfl (by first|rfl|(simp;done)|(simp[sat,iG,sset,gS,jv,gJ,Ob.hG,Ob.kill,gw];done))) (gx.iP [5] (by simp)))) (gx.told q_ lC)
    replace h:=g_ h hb1;cases h;exact gx.trans ((gx.trans (gx.move 46 900000 (ob:=.lO 2 1 1 (jT iD [(-1)])) gu gu gu rfl (by first|rfl|(simp;done)|(simp[sat,iG,sset,gS,jv,gJ,Ob.hG,Ob.kill,gw];done))) (gx.iP [5] (by simp)))) (gx.told q_ lC)
   refine jV h [8,9,34,35,36,37,38,39,40,41,42,43,44,45] (fun pp=>[(9,.d (iD pp))]) (fun pp=>[(0,.obj 75 [.nm c0.v 1 (List.map (kD .u8) c0.l),.d (iD r_2.2.1),.d (iD r_2.2.2)]),(5,.obj 26 [.d (gN 1 iD sig)])]) ?_;rintro f_3 t1 h hb1;unfold tD at h;try dsimp only at h
   refine gv (iL ?_);refine it h (fun hc h=>?_) fun hc h=>?_
   ·refine kz h fun hp h=>?_
    refine iT h fun hc h=>?_
    replace h:=g_ h hb1;cases h;exact gx.trans ((gx.trans (gx.move 45 900000 (ob:=.lO 2 1 1 (jT iD [f_3])) gu gu gu rfl (by first|rfl|(simp;done)|(simp[sat,iG,sset,gS,jv,gJ,Ob.hG,Ob.kill,gw];done))) (gx.iP [5] (by simp)))) (gx.told q_ lC)
   replace h:=g_ h hb1;cases h;exact gx.trans ((gx.trans (gx.move 46 900000 (ob:=.lO 2 1 1 (jT iD [(-1)])) gu gu gu rfl (by first|rfl|(simp;done)|(simp[sat,iG,sset,gS,jv,gJ,Ob.hG,Ob.kill,gw];done))) (gx.iP [5] (by simp)))) (gx.told q_ lC)
  refine mA [(0,0)] [] h fun r_5 hr_5 h=>?_
  refine kz h fun hp h=>?_
  refine jV h [11,12,59,60,61,62,63,64,65,66,67,68,69,70] (fun pp=>[(11,.mL 1 53 pp.2.2.2.length),(12,.d (iD pp.1))]) (fun pp=>[(0,.obj 75 [.nm c0.v 1 (List.map (kD .u8) c0.l),.d (iD pp.2.1),.d (iD pp.2.2.1)]),(5,.obj 26 [.d (gN 1 iD sig)]),(53,.lO 2 1 pp.2.2.2.length (jT iD pp.2.2.2))]) ?_;rintro⟨k,c,c_1,g53⟩ t1 h hb1;unfold qi at h;try dsimp only at h
  refine gv (iL ?_);refine it h (fun hc h=>?_) fun hc h=>?_
  ·refine mA [(0,0)] [] h fun r_6 hr_6 h=>?_
   exact od
  replace h:=g_ h hb1;cases h;exact gx.trans ((gx.trans (gx.move 53 900000 (ob:=.lO 2 1 g53.length (jT iD g53)) gu gu gu rfl (by first|rfl|(simp;done)|(simp[sat,iG,sset,gS,jv,gJ,Ob.hG,Ob.kill,gw];done))) (gx.iP [5] (by simp)))) (gx.told q_ lC)
instance Ey{sig:fI}{depth:Int}{vars:Int}{c0:Cd}{c1:Int}{c2:Int}:iH (jF sig depth vars c0.l c1 c2) fun rr=>hY Tryz.prog 81 [.ptr 0 0,.d (.agg [gN 1 iD sig]),.d (iD depth),.d (iD vars)] [(0,.obj 75 [.nm c0.v 1 (List.map (kD .u8) c0.l),.d (iD c1),.d (iD c2)])] 1 fun xx ss=>xx=.mL 1 900000 rr.1.length/\ss=[(0,.obj 75 [.nm c0.v 1 (List.map (kD .u8) c0.l),.d (iD rr.2.1),.d (iD rr.2.2)]),(900000,.lO 2 1 rr.1.length (jT iD rr.1))]:=⟨fun h=>vt (rY h).choose_spec⟩
def Pj:gR:=
 (.seq (.gz (sq 3 [bo 3 26 1,.alloc 4 68 [.sl 0 (some true) [],.sl 0 (some true) []]])) (.seq (.draw (sq 11 [mv 0,la 1 3,mv 0,.ji 39 [(t0 13),(i0 2)],.bin .add (i0 2) (t0 14),.ji 81 [(t0 11),(t0 12),(t0 15),(i0 2)]]++sq 5 [mv 16]) [[],[],[],[2],[3],[0,1,4,3],[5,5,0,1,2,3,4,5]]) (.seq (.seq (.gz (sq 17 [mv 5,.CY 1 (t0 17) (i0 0),ld 18,bi .lss 19 0])) (.cond (t0 20) (.seq (.gz (sq 21 [mv 0,fa 0 3,ld 22,ln 23,cf 39 [21,24]]++sq 6 [mv 25])) (.seq (.gz (sq 26 [mv 6,.mH 27 2 1 [(t0 26)]]++sq 5 [mv 27])) (.seq (.gz (sq 28 [fa 0 3,ld 28,mv 6,ix 1 29 30,ld 31]++sq 7 [mv 32])) (.block 0 (.loop (.seq (.seq (.gz (sq 33 [mv 7,bi .gtr 33 0])) (.cond (t0 34) .skip (.exit 0))) (.seq (.block 1 (.gz (sq 37 [mv 5,mv 0,la 1 3,.ji 81 [(t0 38),(t0 39),(i0 1),(i0 2)],ap 41 2 1 8 37 40]++sq 5 [mv 41]))) (.gz (sq 35 [mv 7,bi .sub 35 1]++sq 7 [mv 36]))))))))) .skip)) (.seq (.draw (sq 42 [mv 0,la 1 3,mv 0,.ji 39 [(t0 44),(i0 3)],.bin .add (i0 1) (t0 45),.ji 81 [(t0 42),(t0 43),(t0 46),(i0 2)]]++sq 8 [mv 47]) [[],[],[],[2],[3],[0,1,4,3],[5,5,0,1,2,3,4,5]]) (.seq (.seq (.gz (sq 9 [mi 0])) (.block 2 (.loop (.seq (.seq (.gz (sq 48 [mv 9,mv 8,ln 49,bn .lss 48 50])) (.cond (t0 51) .skip (.exit 2))) (.seq (.block 3 (.seq (.gz (sq 54 [mv 8,mv 9,ix 1 54 55,ld 56,bi .lss 57 0,mv 58]++sg 59 true 60 [mv 5,mv 8,mv 9,ix 1 61 62,ld 63,cf 76 [60,64],nt 65]++sq 67 [pa 59 66])) (.cond (t0 67) (.seq (.gz (sq 68 [mv 5,cf 123 [68]]++sq 10 [mv 69])) (.seq (.seq (.gz (sq 70 [mv 10,ln 70,bi .eql 71 0])) (.cond (t0 72) (.seq (.gz (sq 73 [mv 5,la 1 3,mv 5,mv 5,ln 76,bi .sub 77 1,cf 53 [74,75,78],.build [.sl 0 (some true) [],.sl 0 (some true) []] [(0,1,(t0 73)),(1,1,(t0 79))]]++s0 (sr 2 4 80))) .ret) .skip)) (.gz (sq 81 [mv 8,mv 9,mv 10,.CY 1 (t0 83) (i0 0),ld 84,ix 1 81 82]++s0 (sr 1 86 85))))) .skip))) (.gz (sq 52 [mv 9,bi .add 52 1]++sq 9 [mv 53]))))))) (.seq (.gz (sq 87 [mv 5,mv 8,.build [.sl 0 (some true) [],.sl 0 (some true) []] [(0,1,(t0 87)),(1,1,(t0 88))]]++s0 (sr 2 4 89))) .ret))))))
theorem Tp:lE Tryz.prog 122 Pj 90 [.cell 4 2 true]:=mf Tryz.func122 Tryz.ntmps122
def vp(sig:fI)(l:fI)(r_5:fL):gq->Option (gq⊕(fJ×Int×Int))
 |(i,g47)=>
  if(decide (i<(g47.length:Int)))=true then
   if 0<=i/\i<(g47.length:Int)then
    if(decide ((g47.getD i.toNat default)<0))=true then
     if 0<=i/\i<(g47.length:Int)then
      (lV l (g47.getD i.toNat default)).bind fun r_6=>
      if r_6=true then
       some (.inl ((IntKind.i64.wrap (i+1)),g47))
      else
       (mo l).bind fun r_7=>
       if((r_7.length:Int)==0)=true then
        (kR sig l (IntKind.i64.wrap ((l.length:Int)-1))).bind fun r_8=>
        Option.map Sum.inr (
         some ((l,r_8),r_5.2.1,r_5.2.2))
       else
        if 0<=0/\0<(r_7.length:Int)then
         if 0<=i/\i<(g47.length:Int)then
          some (.inl ((IntKind.i64.wrap (i+1)),(g47.set i.toNat (r_7.getD 0 default))))
         else none
        else none
     else none
    else
     some (.inl ((IntKind.i64.wrap (i+1)),g47))
   else none
  else
   Option.map Sum.inr (
    some ((l,g47),r_5.2.1,r_5.2.2))
def vo(sig:fI)(c0:fI):fY->Option (fY⊕(fJ×Int×Int))
 |(l,k,c,c_1)=>
  if(decide (0<k))=true then
   (iV sig 1 2 c0 c c_1).bind fun r_3=>
   if(l.length+r_3.1.length)*8<=140737488355328 then
    some (.inl ((l++r_3.1),(IntKind.i64.wrap (k-1)),r_3.2.1,r_3.2.2))
   else none
  else
   Option.map Sum.inr (
    (gF 3 c0 c c_1).bind fun r_4=>
    (jF sig (IntKind.i64.wrap (1+r_4.1)) 2 c0 r_4.2.1 r_4.2.2).bind fun r_5=>
    gI (vp sig l r_5) (0,r_5.1))
def vq(sig:fI)(r_1:fL)(r_10:fL):gq->Option (gq⊕(fJ×Int×Int))
 |(i_1,g47_1)=>
  if(decide (i_1<(g47_1.length:Int)))=true then
   if 0<=i_1/\i_1<(g47_1.length:Int)then
    if(decide ((g47_1.getD i_1.toNat default)<0))=true then
     if 0<=i_1/\i_1<(g47_1.length:Int)then
      (lV r_1.1 (g47_1.getD i_1.toNat default)).bind fun r_11=>
      if r_11=true then
       some (.inl ((IntKind.i64.wrap (i_1+1)),g47_1))
      else
       (mo r_1.1).bind fun r_12=>
       if((r_12.length:Int)==0)=true then
        (kR sig r_1.1 (IntKind.i64.wrap ((r_1.1.length:Int)-1))).bind fun r_13=>
        Option.map Sum.inr (
         some ((r_1.1,r_13),r_10.2.1,r_10.2.2))
       else
        if 0<=0/\0<(r_12.length:Int)then
         if 0<=i_1/\i_1<(g47_1.length:Int)then
          some (.inl ((IntKind.i64.wrap (i_1+1)),(g47_1.set i_1.toNat (r_12.getD 0 default))))
         else none
        else none
     else none
    else
     some (.inl ((IntKind.i64.wrap (i_1+1)),g47_1))
   else none
  else
   Option.map Sum.inr (
    some ((r_1.1,g47_1),r_10.2.1,r_10.2.2))
def w_(sig:fI)(c0:fI)(c1:Int)(c2:Int):Option (fJ×Int×Int):=
 (gF 2 c0 c1 c2).bind fun r=>
 (iV sig (IntKind.i64.wrap (2+r.1)) 2 c0 r.2.1 r.2.2).bind fun r_1=>
 if 0<=0/\0<(r_1.1.length:Int)then
  if(decide ((r_1.1.getD 0 default)<0))=true then
   (gF (sig.length:Int) c0 r_1.2.1 r_1.2.2).bind fun r_2=>
   if 0<=r_2.1/\r_2.1<(sig.length:Int)then
    gI (vo sig c0) ([r_2.1],(sig.getD r_2.1.toNat default),r_2.2.1,r_2.2.2)
   else none
  else
   (gF 3 c0 r_1.2.1 r_1.2.2).bind fun r_9=>
   (jF sig (IntKind.i64.wrap (1+r_9.1)) 2 c0 r_9.2.1 r_9.2.2).bind fun r_10=>
   gI (vq sig r_1 r_10) (0,r_10.1)
 else none
instance KV{sig:fI}{c0:Cd}{c1:Int}{c2:Int}:iH (w_ sig c0.l c1 c2) fun rr=>hY Tryz.prog 122 [.ptr 0 0,.d (.agg [gN 1 iD sig])] [(0,.obj 75 [.nm c0.v 1 (List.map (kD .u8) c0.l),.d (iD c1),.d (iD c2)])] 1 fun xx ss=>xx=.d (.agg [gN 1 iD rr.1.1,gN 1 iD rr.1.2])/\ss=[(0,.obj 75 [.nm c0.v 1 (List.map (kD .u8) c0.l),.d (iD rr.2.1),.d (iD rr.2.2)])]:=⟨@fun rr h=>by
 delta w_ at h;refine Tp.uw (gv ?_);delta Pj;refine iL ?_;refine wu [(0,0)] [] h fun r hr h=>?_
 refine wu [(0,0)] [] h fun r_1 hr_1 h=>?_
 refine jo (by kernel_rfl) (iL ?_);refine kz h fun hp h=>?_
 refine it h (fun hc h=>?_) fun hc h=>?_
 ·refine mA [(0,0)] [] h fun r_2 hr_2 h=>?_
  refine kz h fun hp h=>?_
  refine jV h [5,7,33,34,35,36,37,38,39,40,41] (fun pp=>[(5,.own 1 27 (List.map iD pp.1)),(7,.d (iD pp.2.1))]) (fun pp=>[(0,.obj 75 [.nm c0.v 1 (List.map (kD .u8) c0.l),.d (iD pp.2.2.1),.d (iD pp.2.2.2)]),(3,.obj 26 [.d (gN 1 iD sig)]),(4,.obj 68 [.d (.sl 0 (some true) []),.d (.sl 0 (some true) [])]),(27,.tok 2 1 pp.1.length)]) ?_;rintro⟨l,k,c,c_1⟩ t1 h hb1;unfold vo at h;try dsimp only at h
  refine gv (iL ?_);refine it h (fun hc h=>?_) fun hc h=>?_
  ·refine mA [(0,0)] [] h fun r_3 hr_3 h=>?_
   exact od
  replace h:=g_ h hb1;refine wu [(0,0)] [] h fun r_4 hr_4 h=>?_
  refine wu [(0,0)] [(900000,47)] h fun r_5 hr_5 h=>?_
  refine jo (by kernel_rfl) (iL ?_);refine jV h [8,9,10,48,49,50,51,52,53,54,55,56,57,58,59,60,61,62,63,64,65,66,67,68,69,70,71,72,73,74,75,76,77,78,79,80,81,82,83,84,85,86] (fun pp=>[(9,.d (iD pp.1)),(8,.mL 1 47 pp.2.length)]) (fun pp=>[(0,.obj 75 [.nm c0.v 1 (List.map (kD .u8) c0.l),.d (iD r_5.2.1),.d (iD r_5.2.2)]),(3,.obj 26 [.d (gN 1 iD sig)]),(4,.obj 68 [.d (.sl 0 (some true) []),.d (.sl 0 (some true) [])]),(27,.tok 2 1 l.length),(47,.lO 2 1 pp.2.length (jT iD pp.2))]) ?_;rintro⟨i,g47⟩ t1 h hb1;unfold vp at h;try dsimp only at h
  refine gv (iL ?_);refine it h (fun hc h=>?_) fun hc h=>?_
  ·refine kz h fun hp h=>?_
   refine Cy ?_;refine iT h fun hc h=>?_
   refine kz h fun hp h=>?_
   refine Cy ?_;refine rC h fun r_6 hr_6 h=>?_
   refine iF h fun hc h=>?_
   refine rC h fun r_7 hr_7 h=>?_
   refine iT h fun hc h=>?_
   refine rC h fun r_8 hr_8 h=>?_
   replace h:=g_ h hb1;cases h;exact gx.trans ((gx.iP [3,4,27,47] (by simp))) (gx.told q_ lC)
  replace h:=g_ h hb1;cases h;exact gx.trans ((gx.trans (gx.fz 47 iD rfl g47) (gx.iP [3,4,27] (by simp)))) (gx.told q_ lC)
 refine wu [(0,0)] [] h fun r_9 hr_9 h=>?_
 refine wu [(0,0)] [(900000,47)] h fun r_10 hr_10 h=>?_
 refine jo (by kernel_rfl) (iL ?_);refine jV h [8,9,10,48,49,50,51,52,53,54,55,56,57,58,59,60,61,62,63,64,65,66,67,68,69,70,71,72,73,74,75,76,77,78,79,80,81,82,83,84,85,86] (fun pp=>[(9,.d (iD pp.1)),(8,.mL 1 47 pp.2.length)]) (fun pp=>[(0,.obj 75 [.nm c0.v 1 (List.map (kD .u8) c0.l),.d (iD r_10.2.1),.d (iD r_10.2.2)]),(3,.obj 26 [.d (gN 1 iD sig)]),(4,.obj 68 [.d (.sl 0 (some true) []),.d (.sl 0 (some true) [])]),(47,.lO 2 1 pp.2.length (jT iD pp.2))]) ?_;rintro⟨i_1,g47_1⟩ t1 h hb1;unfold vq at h;try dsimp only at h
 refine gv (iL ?_);refine it h (fun hc h=>?_) fun hc h=>?_
 ·refine kz h fun hp h=>?_
  refine Cy ?_;refine iT h fun hc h=>?_
  refine kz h fun hp h=>?_
  refine Cy ?_;refine rC h fun r_11 hr_11 h=>?_
  refine iF h fun hc h=>?_
  refine rC h fun r_12 hr_12 h=>?_
  refine iT h fun hc h=>?_
  refine rC h fun r_13 hr_13 h=>?_
  replace h:=g_ h hb1;cases h;exact gx.trans ((gx.iP [3,4,47] (by simp))) (gx.told q_ lC)
 replace h:=g_ h hb1;cases h;exact gx.trans ((gx.trans (gx.fz 47 iD rfl g47_1) (gx.iP [3,4] (by simp)))) (gx.told q_ lC)⟩
def ue(c0:fI):fS->Option (fS⊕fL)
 |(n,c,c_1,sig)=>
  if(decide (0<n))=true then
   (gF 3 c0 c c_1).bind fun r_2=>
   if(sig.length+1)*8<=140737488355328 then
    some (.inl ((IntKind.i64.wrap (n-1)),r_2.2.1,r_2.2.2,(sig++[r_2.1])))
   else none
  else
   Option.map Sum.inr (
    some (sig,c,c_1))
def oh(c0:fI)(c1:Int)(c2:Int):Option fL:=
 (iC 4 c0 c1 c2).bind fun r=>
 if r.1=true then
  (gF 4 c0 r.2.1 r.2.2).bind fun r_1=>
  gI (ue c0) (r_1.1,r_1.2.1,r_1.2.2,[0])
 else
  some ([2,1,0],r.2.1,r.2.2)
instance IW{c0:Cd}{c1:Int}{c2:Int}:iH (oh c0.l c1 c2) fun rr=>hY Tryz.prog 109 [.ptr 0 0] [(0,.obj 75 [.nm c0.v 1 (List.map (kD .u8) c0.l),.d (iD c1),.d (iD c2)])] 1 fun xx ss=>xx=.agg [.own 1 900000 (List.map iD rr.1)]/\ss=[(0,.obj 75 [.nm c0.v 1 (List.map (kD .u8) c0.l),.d (iD rr.2.1),.d (iD rr.2.2)]),(900000,.tok 2 1 rr.1.length)]:=⟨@fun rr h=>by
 delta oh at h;refine To.uw (gv ?_);delta Ph;refine iL ?_;refine mA [(0,0)] [] h fun r hr h=>?_
 refine it h (fun hc h=>?_) fun hc h=>?_
 ·refine mA [(0,0)] [] h fun r_1 hr_1 h=>?_
  refine jV h [4,5,6,9,10,13,14,15,16,17,18,19,20,21,22,23] (fun pp=>[(4,.d (iD pp.1))]) (fun pp=>[(0,.obj 75 [.nm c0.v 1 (List.map (kD .u8) c0.l),.d (iD pp.2.1),.d (iD pp.2.2.1)]),(2,.obj 26 [.d (.sl 0 (some true) [])]),(3,.obj 26 [.own 1 9 (List.map iD pp.2.2.2)]),(5,.tok 2 1 3),(9,.tok 2 1 pp.2.2.2.length)]) ?_;rintro⟨n,c,c_1,sig⟩ t1 h hb1;unfold ue at h;try dsimp only at h
  refine gv (iL ?_);refine it h (fun hc h=>?_) fun hc h=>?_
  ·refine wu [(0,0)] [] h fun r_2 hr_2 h=>?_
   refine kz h fun hp h=>?_
   refine jo (by kernel_rfl) (iL ?_);cases h;refine⟨_,rfl,?_⟩;refine(iB.drop 21 gu).trans ?_;exact wk
  replace h:=g_ h hb1;cases h;exact gx.trans ((gx.trans (gx.move 9 900000 (ob:=.tok 2 1 sig.length) gu gu gu rfl (by first|rfl|(simp;done)|(simp[sat,iG,sset,gS,jv,gJ,Ob.hG,Ob.kill,gw];done))) (gx.iP [2,3,5] (by simp)))) (gx.told q_ lC)
 cases h;exact gx.trans ((gx.trans (gx.move 5 900000 (ob:=.tok 2 1 3) gu gu gu rfl (by first|rfl|(simp;done)|(simp[sat,iG,sset,gS,jv,gJ,Ob.hG,Ob.kill,gw];done))) (gx.iP [2,3] (by simp)))) (gx.told q_ lC)⟩
def tE(sig:fI)(r:fU):Int->Option gi
 |f=>
  if(decide (0<=f))=true then
   if 0<=f/\f<(sig.length:Int)then
    if((sig.getD f.toNat default)==0)=true then
     Option.map Sum.inr (
      some ([f],r.2.1,r.2.2))
    else
     some (.inl (IntKind.i64.wrap (f-1)))
   else none
  else
   Option.map Sum.inr (
    some ([(-1)],r.2.1,r.2.2))
def tF(sig:fI)(c1:Int)(c2:Int):Int->Option gi
 |f_1=>
  if(decide (0<=f_1))=true then
   if 0<=f_1/\f_1<(sig.length:Int)then
    if((sig.getD f_1.toNat default)==0)=true then
     Option.map Sum.inr (
      some ([f_1],c1,c2))
    else
     some (.inl (IntKind.i64.wrap (f_1-1)))
   else none
  else
   Option.map Sum.inr (
    some ([(-1)],c1,c2))
def tG(sig:fI)(r_3:fU):Int->Option gi
 |f_2=>
  if(decide (0<=f_2))=true then
   if 0<=f_2/\f_2<(sig.length:Int)then
    if((sig.getD f_2.toNat default)==0)=true then
     Option.map Sum.inr (
      some ([f_2],r_3.2.1,r_3.2.2))
    else
     some (.inl (IntKind.i64.wrap (f_2-1)))
   else none
  else
   Option.map Sum.inr (
    some ([(-1)],r_3.2.1,r_3.2.2))
def tH(sig:fI)(r_2:fU):Int->Option gi
 |f_3=>
  if(decide (0<=f_3))=true then
   if 0<=f_3/\f_3<(sig.length:Int)then
    if((sig.getD f_3.toNat default)==0)=true then
     Option.map Sum.inr (
      some ([f_3],r_2.2.1,r_2.2.2))
    else
     some (.inl (IntKind.i64.wrap (f_3-1)))
   else none
  else
   Option.map Sum.inr (
    some ([(-1)],r_2.2.1,r_2.2.2))
def qj(sig:fI)(depth:Int)(vars:Int)(c0:fI):fY->Option (fY⊕fL)
 |(out,k,c,c_1)=>
  if(decide (0<k))=true then
   (iV sig (IntKind.i64.wrap (depth-1)) vars c0 c c_1).bind fun r_6=>
   if(out.length+r_6.1.length)*8<=140737488355328 then
    some (.inl ((out++r_6.1),(IntKind.i64.wrap (k-1)),r_6.2.1,r_6.2.2))
   else none
  else
   Option.map Sum.inr (
    some (out,c,c_1))
def lJ:Nat->fI->Int->Int->fI->Int->Int->Option fL
 |0,_,_,_,_,_,_=>none
 |fu+1,sig,depth,vars,c0,c1,c2=>
  if(decide (depth<=1))=true then
   if(decide (0<vars))=true then
    (iC 2 c0 c1 c2).bind fun r=>
    if r.1=true then
     (gF vars c0 r.2.1 r.2.2).bind fun r_1=>
     some ([(IntKind.i64.wrap ((-1)-r_1.1))],r_1.2.1,r_1.2.2)
    else
     gI (tE sig r) (IntKind.i64.wrap ((sig.length:Int)-1))
   else
    gI (tF sig c1 c2) (IntKind.i64.wrap ((sig.length:Int)-1))
  else
   (iC 4 c0 c1 c2).bind fun r_2=>
   if r_2.1=true then
    if(decide (0<vars))=true then
     (iC 2 c0 r_2.2.1 r_2.2.2).bind fun r_3=>
     if r_3.1=true then
      (gF vars c0 r_3.2.1 r_3.2.2).bind fun r_4=>
      some ([(IntKind.i64.wrap ((-1)-r_4.1))],r_4.2.1,r_4.2.2)
     else
      gI (tG sig r_3) (IntKind.i64.wrap ((sig.length:Int)-1))
    else
     gI (tH sig r_2) (IntKind.i64.wrap ((sig.length:Int)-1))
   else
    (gF (sig.length:Int) c0 r_2.2.1 r_2.2.2).bind fun r_5=>
    if 0<=r_5.1/\r_5.1<(sig.length:Int)then
     gI (qj sig depth vars c0) ([r_5.1],(sig.getD r_5.1.toNat default),r_5.2.1,r_5.2.2)
    else none
def kg(sig:fI)(depth:Int)(vars:Int)(c0:fI)(c1:Int)(c2:Int):Option fL:=AA fun fu=>lJ fu sig depth vars c0 c1 c2
theorem vu:∀{fu:Nat}{sig:fI}{depth:Int}{vars:Int}{c0:Cd}{c1:Int}{c2:Int}{rr:fL}(h:lJ fu sig depth vars c0.l c1 c2=some rr),hY Tryz.prog 81 [.ptr 0 0,.d (.agg [gN 1 iD sig]),.d (iD depth),.d (iD vars)] [(0,.obj 75 [.nm c0.v 1 (List.map (kD .u8) c0.l),.d (iD c1),.d (iD c2)])] 1 fun xx ss=>xx=.own 1 900000 (List.map iD rr.1)/\ss=[(0,.obj 75 [.nm c0.v 1 (List.map (kD .u8) c0.l),.d (iD rr.2.1),.d (iD rr.2.2)]),(900000,.tok 2 1 rr.1.length)]
 |0,_,_,_,_,_,_,_,h=>by cases h
 |fu+1,sig,depth,vars,c0,c1,c2,rr,h=>by
  have ih:∀{sig:fI}{depth:Int}{vars:Int}{c0:Cd}{c1:Int}{c2:Int},iH (lJ fu sig depth vars c0.l c1 c2) fun rr=>hY Tryz.prog 81 [.ptr 0 0,.d (.agg [gN 1 iD sig]),.d (iD depth),.d (iD vars)] [(0,.obj 75 [.nm c0.v 1 (List.map (kD .u8) c0.l),.d (iD c1),.d (iD c2)])] 1 fun xx ss=>xx=.own 1 900000 (List.map iD rr.1)/\ss=[(0,.obj 75 [.nm c0.v 1 (List.map (kD .u8) c0.l),.d (iD rr.2.1),.d (iD rr.2.2)]),(900000,.tok 2 1 rr.1.length)]:=⟨fun h=>vu h⟩
  unfold lJ at h;refine Wq.uw (gv ?_);delta US;refine iL ?_;refine it h (fun hc h=>?_) fun hc h=>?_
  ·refine it h (fun hc h=>?_) fun hc h=>?_
   ·refine mA [(0,0)] [] h fun r hr h=>?_
    refine it h (fun hc h=>?_) fun hc h=>?_
    ·refine mA [(0,0)] [] h fun r_1 hr_1 h=>?_
     cases h;exact gx.trans ((gx.trans (gx.move 29 900000 (ob:=.tok 2 1 1) gu gu gu rfl (by first|rfl|(simp;done)|(simp[sat,iG,sset,gS,jv,gJ,Ob.hG,Ob.kill,gw];done))) (gx.iP [5] (by simp)))) (gx.told q_ lC)
    refine jV h [8,9,34,35,36,37,38,39,40,41,42,43,44,45] (fun pp=>[(9,.d (iD pp))]) (fun pp=>[(0,.obj 75 [.nm c0.v 1 (List.map (kD .u8) c0.l),.d (iD r.2.1),.d (iD r.2.2)]),(5,.obj 26 [.d (gN 1 iD sig)])]) ?_;rintro f t1 h hb1;unfold tE at h;try dsimp only at h
    refine gv (iL ?_);refine it h (fun hc h=>?_) fun hc h=>?_
    ·refine kz h fun hp h=>?_
     refine iT h fun hc h=>?_
     replace h:=g_ h hb1;cases h;exact gx.trans ((gx.trans (gx.move 45 900000 (ob:=.tok 2 1 1) gu gu gu rfl (by first|rfl|(simp;done)|(simp[sat,iG,sset,gS,jv,gJ,Ob.hG,Ob.kill,gw];done))) (gx.iP [5] (by simp)))) (gx.told q_ lC)
    replace h:=g_ h hb1;cases h;exact gx.trans ((gx.trans (gx.move 46 900000 (ob:=.tok 2 1 1) gu gu gu rfl (by first|rfl|(simp;done)|(simp[sat,iG,sset,gS,jv,gJ,Ob.hG,Ob.kill,gw];done))) (gx.iP [5] (by simp)))) (gx.told q_ lC)
   refine jV h [8,9,34,35,36,37,38,39,40,41,42,43,44,45] (fun pp=>[(9,.d (iD pp))]) (fun pp=>[(0,.obj 75 [.nm c0.v 1 (List.map (kD .u8) c0.l),.d (iD c1),.d (iD c2)]),(5,.obj 26 [.d (gN 1 iD sig)])]) ?_;rintro f_1 t1 h hb1;unfold tF at h;try dsimp only at h
   refine gv (iL ?_);refine it h (fun hc h=>?_) fun hc h=>?_
   ·refine kz h fun hp h=>?_
    refine iT h fun hc h=>?_
    replace h:=g_ h hb1;cases h;exact gx.trans ((gx.trans (gx.move 45 900000 (ob:=.tok 2 1 1) gu gu gu rfl (by first|rfl|(simp;done)|(simp[sat,iG,sset,gS,jv,gJ,Ob.hG,Ob.kill,gw];done))) (gx.iP [5] (by simp)))) (gx.told q_ lC)
   replace h:=g_ h hb1;cases h;exact gx.trans ((gx.trans (gx.move 46 900000 (ob:=.tok 2 1 1) gu gu gu rfl (by first|rfl|(simp;done)|(simp[sat,iG,sset,gS,jv,gJ,Ob.hG,Ob.kill,gw];done))) (gx.iP [5] (by simp)))) (gx.told q_ lC)
  refine mA [(0,0)] [] h fun r_2 hr_2 h=>?_
  refine it h (fun hc h=>?_) fun hc h=>?_
  ·refine it h (fun hc h=>?_) fun hc h=>?_
   ·refine mA [(0,0)] [] h fun r_3 hr_3 h=>?_
    refine it h (fun hc h=>?_) fun hc h=>?_
    ·refine mA [(0,0)] [] h fun r_4 hr_4 h=>?_
     cases h;exact gx.trans ((gx.trans (gx.move 29 900000 (ob:=.tok 2 1 1) gu gu gu rfl (by first|rfl|(simp;done)|(simp[sat,iG,sset,gS,jv,gJ,Ob.hG,Ob.kill,gw];done))) (gx.iP [5] (by simp)))) (gx.told q_ lC)
    refine jV h [8,9,34,35,36,37,38,39,40,41,42,43,44,45] (fun pp=>[(9,.d (iD pp))]) (fun pp=>[(0,.obj 75 [.nm c0.v 1 (List.map (kD .u8) c0.l),.d (iD r_3.2.1),.d (iD r_3.2.2)]),(5,.obj 26 [.d (gN 1 iD sig)])]) ?_;rintro f_2 t1 h hb1;unfold tG at h;try dsimp only at h
    refine gv (iL ?_);refine it h (fun hc h=>?_) fun hc h=>?_
    ·refine kz h fun hp h=>?_
     refine iT h fun hc h=>?_
     replace h:=g_ h hb1;cases h;exact gx.trans ((gx.trans (gx.move 45 900000 (ob:=.tok 2 1 1) gu gu gu rfl (by first|rfl|(simp;done)|(simp[sat,iG,sset,gS,jv,gJ,Ob.hG,Ob.kill,gw];done))) (gx.iP [5] (by simp)))) (gx.told q_ lC)
    replace h:=g_ h hb1;cases h;exact gx.trans ((gx.trans (gx.move 46 900000 (ob:=.tok 2 1 1) gu gu gu rfl (by first|rfl|(simp;done)|(simp[sat,iG,sset,gS,jv,gJ,Ob.hG,Ob.kill,gw];done))) (gx.iP [5] (by simp)))) (gx.told q_ lC)
   refine jV h [8,9,34,35,36,37,38,39,40,41,42,43,44,45] (fun pp=>[(9,.d (iD pp))]) (fun pp=>[(0,.obj 75 [.nm c0.v 1 (List.map (kD .u8) c0.l),.d (iD r_2.2.1),.d (iD r_2.2.2)]),(5,.obj 26 [.d (gN 1 iD sig)])]) ?_;rintro f_3 t1 h hb1;unfold tH at h;try dsimp only at h
   refine gv (iL ?_);refine it h (fun hc h=>?_) fun hc h=>?_
   ·refine kz h fun hp h=>?_
    refine iT h fun hc h=>?_
    replace h:=g_ h hb1;cases h;exact gx.trans ((gx.trans (gx.move 45 900000 (ob:=.tok 2 1 1) gu gu gu rfl (by first|rfl|(simp;done)|(simp[sat,iG,sset,gS,jv,gJ,Ob.hG,Ob.kill,gw];done))) (gx.iP [5] (by simp)))) (gx.told q_ lC)
   replace h:=g_ h hb1;cases h;exact gx.trans ((gx.trans (gx.move 46 900000 (ob:=.tok 2 1 1) gu gu gu rfl (by first|rfl|(simp;done)|(simp[sat,iG,sset,gS,jv,gJ,Ob.hG,Ob.kill,gw];done))) (gx.iP [5] (by simp)))) (gx.told q_ lC)
  refine mA [(0,0)] [] h fun r_5 hr_5 h=>?_
  refine kz h fun hp h=>?_
  refine jV h [11,12,53,59,60,61,62,63,64,65,66,67,68,69,70] (fun pp=>[(11,.own 1 53 (List.map iD pp.1)),(12,.d (iD pp.2.1))]) (fun pp=>[(0,.obj 75 [.nm c0.v 1 (List.map (kD .u8) c0.l),.d (iD pp.2.2.1),.d (iD pp.2.2.2)]),(5,.obj 26 [.d (gN 1 iD sig)]),(53,.tok 2 1 pp.1.length)]) ?_;rintro⟨out,k,c,c_1⟩ t1 h hb1;unfold qj at h;try dsimp only at h
  refine gv (iL ?_);refine it h (fun hc h=>?_) fun hc h=>?_
  ·refine mA [(0,0)] [] h fun r_6 hr_6 h=>?_
   exact od
  replace h:=g_ h hb1;cases h;exact gx.trans ((gx.trans (gx.move 53 900000 (ob:=.tok 2 1 out.length) gu gu gu rfl (by first|rfl|(simp;done)|(simp[sat,iG,sset,gS,jv,gJ,Ob.hG,Ob.kill,gw];done))) (gx.iP [5] (by simp)))) (gx.told q_ lC)
instance Ez{sig:fI}{depth:Int}{vars:Int}{c0:Cd}{c1:Int}{c2:Int}:iH (kg sig depth vars c0.l c1 c2) fun rr=>hY Tryz.prog 81 [.ptr 0 0,.d (.agg [gN 1 iD sig]),.d (iD depth),.d (iD vars)] [(0,.obj 75 [.nm c0.v 1 (List.map (kD .u8) c0.l),.d (iD c1),.d (iD c2)])] 1 fun xx ss=>xx=.own 1 900000 (List.map iD rr.1)/\ss=[(0,.obj 75 [.nm c0.v 1 (List.map (kD .u8) c0.l),.d (iD rr.2.1),.d (iD rr.2.2)]),(900000,.tok 2 1 rr.1.length)]:=⟨fun h=>vu (rY h).choose_spec⟩
def nY(sig:fI)(t:fI)(iz:Int):Option fI:=
 (lU sig t iz).bind fun r=>
 if 0<=iz/\iz<=r/\r<=(t.length:Int)then
  (iX ((t.take r.toNat).drop iz.toNat)).bind fun r_1=>
  some r_1
 else none
instance Np{sig:fI}{t:fI}{iz:Int}:iH (nY sig t iz) fun rr=>hY Tryz.prog 53 [.d (.agg [gN 1 iD sig]),.d (gN 1 iD t),.d (iD iz)] [] 0 fun xx ss=>xx=.own 1 900000 (List.map iD rr)/\ss=[(900000,.tok 2 1 rr.length)]:=⟨@fun rr h=>by
 delta nY at h;refine Wo.uw (gv ?_);delta UQ;refine iL ?_;refine rC h fun r hr h=>?_
 refine kz h fun hp h=>?_
 refine mA [] [(3,14)] h fun r_1 hr_1 h=>?_
 cases h;exact gx.trans ((gx.trans (gx.move 14 900000 (ob:=.tok 2 1 rr.length) gu gu gu rfl (by first|rfl|(simp;done)|(simp[sat,iG,sset,gS,jv,gJ,Ob.hG,Ob.kill,gw];done))) (gx.iP [3] (by simp)))) (gx.told q_ lC)⟩
def tK(sig:fI)(l:fI)(r_5:fL):gq->Option (gq⊕gk)
 |(i,g47)=>
  if(decide (i<(g47.length:Int)))=true then
   if 0<=i/\i<(g47.length:Int)then
    if(decide ((g47.getD i.toNat default)<0))=true then
     if 0<=i/\i<(g47.length:Int)then
      (lV l (g47.getD i.toNat default)).bind fun r_6=>
      if r_6=true then
       some (.inl ((IntKind.i64.wrap (i+1)),g47))
      else
       (mo l).bind fun r_7=>
       if((r_7.length:Int)==0)=true then
        (nY sig l (IntKind.i64.wrap ((l.length:Int)-1))).bind fun r_8=>
        Option.map Sum.inr (
         some (l,r_8,r_5.2.1,r_5.2.2))
       else
        if 0<=0/\0<(r_7.length:Int)then
         if 0<=i/\i<(g47.length:Int)then
          some (.inl ((IntKind.i64.wrap (i+1)),(g47.set i.toNat (r_7.getD 0 default))))
         else none
        else none
     else none
    else
     some (.inl ((IntKind.i64.wrap (i+1)),g47))
   else none
  else
   Option.map Sum.inr (
    some (l,g47,r_5.2.1,r_5.2.2))
def qm(sig:fI)(c0:fI):fY->Option (fY⊕gk)
 |(l,k,c,c_1)=>
  if(decide (0<k))=true then
   (iV sig 1 2 c0 c c_1).bind fun r_3=>
   if(l.length+r_3.1.length)*8<=140737488355328 then
    some (.inl ((l++r_3.1),(IntKind.i64.wrap (k-1)),r_3.2.1,r_3.2.2))
   else none
  else
   Option.map Sum.inr (
    (gF 3 c0 c c_1).bind fun r_4=>
    (jF sig (IntKind.i64.wrap (1+r_4.1)) 2 c0 r_4.2.1 r_4.2.2).bind fun r_5=>
    gI (tK sig l r_5) (0,r_5.1))
def tL(sig:fI)(r_1:fL)(r_10:fL):gq->Option (gq⊕gk)
 |(i_1,g47_1)=>
  if(decide (i_1<(g47_1.length:Int)))=true then
   if 0<=i_1/\i_1<(g47_1.length:Int)then
    if(decide ((g47_1.getD i_1.toNat default)<0))=true then
     if 0<=i_1/\i_1<(g47_1.length:Int)then
      (lV r_1.1 (g47_1.getD i_1.toNat default)).bind fun r_11=>
      if r_11=true then
       some (.inl ((IntKind.i64.wrap (i_1+1)),g47_1))
      else
       (mo r_1.1).bind fun r_12=>
       if((r_12.length:Int)==0)=true then
        (nY sig r_1.1 (IntKind.i64.wrap ((r_1.1.length:Int)-1))).bind fun r_13=>
        Option.map Sum.inr (
         some (r_1.1,r_13,r_10.2.1,r_10.2.2))
       else
        if 0<=0/\0<(r_12.length:Int)then
         if 0<=i_1/\i_1<(g47_1.length:Int)then
          some (.inl ((IntKind.i64.wrap (i_1+1)),(g47_1.set i_1.toNat (r_12.getD 0 default))))
         else none
        else none
     else none
    else
     some (.inl ((IntKind.i64.wrap (i_1+1)),g47_1))
   else none
  else
   Option.map Sum.inr (
    some (r_1.1,g47_1,r_10.2.1,r_10.2.2))
def nM(sig:fI)(c0:fI)(c1:Int)(c2:Int):Option gk:=
 (gF 2 c0 c1 c2).bind fun r=>
 (kg sig (IntKind.i64.wrap (2+r.1)) 2 c0 r.2.1 r.2.2).bind fun r_1=>
 if 0<=0/\0<(r_1.1.length:Int)then
  if(decide ((r_1.1.getD 0 default)<0))=true then
   (gF (sig.length:Int) c0 r_1.2.1 r_1.2.2).bind fun r_2=>
   if 0<=r_2.1/\r_2.1<(sig.length:Int)then
    gI (qm sig c0) ([r_2.1],(sig.getD r_2.1.toNat default),r_2.2.1,r_2.2.2)
   else none
  else
   (gF 3 c0 r_1.2.1 r_1.2.2).bind fun r_9=>
   (jF sig (IntKind.i64.wrap (1+r_9.1)) 2 c0 r_9.2.1 r_9.2.2).bind fun r_10=>
   gI (tL sig r_1 r_10) (0,r_10.1)
 else none
instance Hs{sig:fI}{c0:Cd}{c1:Int}{c2:Int}:iH (nM sig c0.l c1 c2) fun rr=>hY Tryz.prog 122 [.ptr 0 0,.d (.agg [gN 1 iD sig])] [(0,.obj 75 [.nm c0.v 1 (List.map (kD .u8) c0.l),.d (iD c1),.d (iD c2)])] 1 fun xx ss=>xx=.agg [.own 1 900000 (List.map iD rr.1),.own 1 900001 (List.map iD rr.2.1)]/\ss=[(0,.obj 75 [.nm c0.v 1 (List.map (kD .u8) c0.l),.d (iD rr.2.2.1),.d (iD rr.2.2.2)]),(900000,.tok 2 1 rr.1.length),(900001,.tok 2 1 rr.2.1.length)]:=⟨@fun rr h=>by
 delta nM at h;refine Tp.uw (gv ?_);delta Pj;refine iL ?_;refine wu [(0,0)] [] h fun r hr h=>?_
 refine wu [(0,0)] [(900000,16)] h fun r_1 hr_1 h=>?_
 refine jo (by kernel_rfl) (iL ?_);refine kz h fun hp h=>?_
 refine it h (fun hc h=>?_) fun hc h=>?_
 ·refine mA [(0,0)] [] h fun r_2 hr_2 h=>?_
  refine kz h fun hp h=>?_
  refine jV h [5,7,16,17,27,33,34,35,36,37,38,39,40,41] (fun pp=>[(5,.own 1 27 (List.map iD pp.1)),(7,.d (iD pp.2.1))]) (fun pp=>[(0,.obj 75 [.nm c0.v 1 (List.map (kD .u8) c0.l),.d (iD pp.2.2.1),.d (iD pp.2.2.2)]),(3,.obj 26 [.d (gN 1 iD sig)]),(4,.obj 68 [.d (.sl 0 (some true) []),.d (.sl 0 (some true) [])]),(16,.tok 2 1 r_1.1.length),(27,.tok 2 1 pp.1.length)]) ?_;rintro⟨l,k,c,c_1⟩ t1 h hb1;unfold qm at h;try dsimp only at h
  refine gv (iL ?_);refine it h (fun hc h=>?_) fun hc h=>?_
  ·refine mA [(0,0)] [] h fun r_3 hr_3 h=>?_
   exact od
  replace h:=g_ h hb1;refine wu [(0,0)] [] h fun r_4 hr_4 h=>?_
  refine wu [(0,0)] [(900000,47)] h fun r_5 hr_5 h=>?_
  refine jo (by kernel_rfl) (iL ?_);refine rZ h [5,8,9,10,48,49,50,51,52,53,54,55,56,57,58,59,60,61,62,63,64,65,66,67,68,69,70,71,72,73,74,75,76,77,78,79,80,81,82,83,84,85,86] (fun pp=>[(9,.d (iD pp.1)),(8,.mL 1 47 pp.2.length),(5,.own 1 27 (List.map iD l))]) (fun pp=>[(0,.obj 75 [.nm c0.v 1 (List.map (kD .u8) c0.l),.d (iD r_5.2.1),.d (iD r_5.2.2)]),(3,.obj 26 [.d (gN 1 iD sig)]),(4,.obj 68 [.d (.sl 0 (some true) []),.d (.sl 0 (some true) [])]),(27,.tok 2 1 l.length),(47,.lO 2 1 pp.2.length (jT iD pp.2))]) ?_ ?_
  ·try dsimp only
   refine(iB.drop 16 gu).trans ?_;exact wk
  rintro⟨i,g47⟩ t1 h hb1;unfold tK at h;try dsimp only at h
  refine gv (iL ?_);refine it h (fun hc h=>?_) fun hc h=>?_
  ·refine kz h fun hp h=>?_
   refine Cy ?_;refine iT h fun hc h=>?_
   refine kz h fun hp h=>?_
   refine Cy ?_;refine rC h fun r_6 hr_6 h=>?_
   refine iF h fun hc h=>?_
   refine rC h fun r_7 hr_7 h=>?_
   refine iT h fun hc h=>?_
   refine mA [] [(900000,79)] h fun r_8 hr_8 h=>?_
   replace h:=g_ h hb1;cases h;exact gx.trans ((gx.trans (gx.move 27 900000 (ob:=.tok 2 1 l.length) gu gu gu rfl (by first|rfl|(simp;done)|(simp[sat,iG,sset,gS,jv,gJ,Ob.hG,Ob.kill,gw];done))) (gx.trans (gx.move 79 900001 (ob:=.tok 2 1 r_8.length) gu gu gu rfl (by first|rfl|(simp;done)|(simp[sat,iG,sset,gS,jv,gJ,Ob.hG,Ob.kill,gw];done))) (gx.iP [3,4,47] (by simp))))) (gx.told q_ lC)
  replace h:=g_ h hb1;cases h;exact gx.trans ((gx.trans (gx.II 47 iD rfl g47 (.agg [.own 1 27 (List.map iD l),.own 1 47 (List.map iD g47)]) rfl (by simp) (by first|rfl|simp only[go_sem,gN,aP,List.map_take,List.map_drop,aI,Nat.reduceAdd,Nat.reduceSub,Nat.reduceLeDiff,Nat.reduceEqDiff,Nat.reduceLT,reduceIte,reduceCtorEq]) (by repeat' (first|exact TO.hit|exact TO.refl|refine TO.oz ?_|refine TO.agg ?_|refine NF.cons ?_ ?_|exact NF.nil))) (gx.trans (gx.move 27 900000 (ob:=.tok 2 1 l.length) gu gu gu rfl (by first|rfl|(simp;done)|(simp[sat,iG,sset,gS,jv,gJ,Ob.hG,Ob.kill,gw];done))) (gx.trans (gx.move 47 900001 (ob:=.tok 2 1 g47.length) gu gu gu rfl (by first|rfl|(simp;done)|(simp[sat,iG,sset,gS,jv,gJ,Ob.hG,Ob.kill,gw];done))) (gx.iP [3,4] (by simp)))))) (gx.told q_ lC)
 refine wu [(0,0)] [] h fun r_9 hr_9 h=>?_
 refine wu [(0,0)] [(900000,47)] h fun r_10 hr_10 h=>?_
 refine jo (by kernel_rfl) (iL ?_);refine jV h [5,8,9,10,16,17,48,49,50,51,52,53,54,55,56,57,58,59,60,61,62,63,64,65,66,67,68,69,70,71,72,73,74,75,76,77,78,79,80,81,82,83,84,85,86] (fun pp=>[(9,.d (iD pp.1)),(8,.mL 1 47 pp.2.length),(5,.own 1 16 (List.map iD r_1.1))]) (fun pp=>[(0,.obj 75 [.nm c0.v 1 (List.map (kD .u8) c0.l),.d (iD r_10.2.1),.d (iD r_10.2.2)]),(3,.obj 26 [.d (gN 1 iD sig)]),(4,.obj 68 [.d (.sl 0 (some true) []),.d (.sl 0 (some true) [])]),(16,.tok 2 1 r_1.1.length),(47,.lO 2 1 pp.2.length (jT iD pp.2))]) ?_;rintro⟨i_1,g47_1⟩ t1 h hb1;unfold tL at h;try dsimp only at h
 refine gv (iL ?_);refine it h (fun hc h=>?_) fun hc h=>?_
 ·refine kz h fun hp h=>?_
  refine Cy ?_;refine iT h fun hc h=>?_
  refine kz h fun hp h=>?_
  refine Cy ?_;refine rC h fun r_11 hr_11 h=>?_
  refine iF h fun hc h=>?_
  refine rC h fun r_12 hr_12 h=>?_
  refine iT h fun hc h=>?_
  refine mA [] [(900000,79)] h fun r_13 hr_13 h=>?_
  replace h:=g_ h hb1;cases h;exact gx.trans ((gx.trans (gx.move 16 900000 (ob:=.tok 2 1 r_1.1.length) gu gu gu rfl (by first|rfl|(simp;done)|(simp[sat,iG,sset,gS,jv,gJ,Ob.hG,Ob.kill,gw];done))) (gx.trans (gx.move 79 900001 (ob:=.tok 2 1 r_13.length) gu gu gu rfl (by first|rfl|(simp;done)|(simp[sat,iG,sset,gS,jv,gJ,Ob.hG,Ob.kill,gw];done))) (gx.iP [3,4,47] (by simp))))) (gx.told q_ lC)
 replace h:=g_ h hb1;cases h;exact gx.trans ((gx.trans (gx.II 47 iD rfl g47_1 (.agg [.own 1 16 (List.map iD r_1.1),.own 1 47 (List.map iD g47_1)]) rfl (by simp) (by first|rfl|simp only[go_sem,gN,aP,List.map_take,List.map_drop,aI,Nat.reduceAdd,Nat.reduceSub,Nat.reduceLeDiff,Nat.reduceEqDiff,Nat.reduceLT,reduceIte,reduceCtorEq]) (by repeat' (first|exact TO.hit|exact TO.refl|refine TO.oz ?_|refine TO.agg ?_|refine NF.cons ?_ ?_|exact NF.nil))) (gx.trans (gx.move 16 900000 (ob:=.tok 2 1 r_1.1.length) gu gu gu rfl (by first|rfl|(simp;done)|(simp[sat,iG,sset,gS,jv,gJ,Ob.hG,Ob.kill,gw];done))) (gx.trans (gx.move 47 900001 (ob:=.tok 2 1 g47_1.length) gu gu gu rfl (by first|rfl|(simp;done)|(simp[sat,iG,sset,gS,jv,gJ,Ob.hG,Ob.kill,gw];done))) (gx.iP [3,4] (by simp)))))) (gx.told q_ lC)⟩
def sw:gR:=
 (.seq (.gz (sq 3 [bo 3 26 1,.alloc 4 55 [.sl 0 (some true) [],.sl 0 (some true) [],.sl 0 (some true) []]])) (.seq (.gz (sq 10 [mv 0,la 1 3,cf 122 [10,11]]++sq 5 [.alloc 5 68 [.sl 0 (some true) [],.sl 0 (some true) []]]++s0 (sr 2 5 12))) (.seq (.gz (sq 13 [fa 0 5,ld 13,fa 1 5,ld 15,.build [.sl 0 (some true) [],.sl 0 (some true) [],.sl 0 (some true) []] [(0,1,(t0 14)),(1,1,(t0 16))]]++sq 6 [.alloc 6 55 [.sl 0 (some true) [],.sl 0 (some true) [],.sl 0 (some true) []]]++s0 (sr 3 6 17))) (.seq (.gz (sq 18 [fa 0 5,ld 18,cf 123 [19]]++sq 7 [mv 20])) (.seq (.seq (.gz (sq 21 [mv 0,.ji 39 [(t0 21),(i0 3)]]++sq 8 [mv 22])) (.block 0 (.loop (.seq (.seq (.gz (sq 23 [mv 8,bi .gtr 23 0,mv 24]++sg 25 true 26 [mv 7,ln 26,bi .gtr 27 0]++sq 29 [pa 25 28])) (.cond (t0 29) .skip (.exit 0))) (.seq (.block 1 (.seq (.gz (sq 32 [mv 0,la 1 3,.ji 81 [(t0 32),(t0 33),(i0 2),(i0 0)]]++sq 9 [mv 34])) (.seq (.seq (.gz (sq 35 [mv 0,.ji 40 [(t0 35),(i0 2)]])) (.cond (t0 36) (.gz (sq 37 [mv 7,.CY 1 (t0 37) (i0 0),ld 38,.mH 40 2 1 [(t0 39)]]++sq 9 [mv 40])) .skip)) (.draw (sq 41 [fa 2 6,ld 41,mv 9,mv 0,la 1 3,.ji 81 [(t0 44),(t0 45),(i0 2),(i0 3)],.build [.sl 0 (some true) [],.sl 0 (some true) []] [(0,1,(t0 43)),(1,1,(t0 46))],.yu 48 89 2 [(t0 47)],.CN 49 89 2 48 (t0 42) (t0 48),fa 2 6]++s0 (sr 1 50 49)) [[],[0],[],[],[],[3,4],[2,5],[6],[1,7,5],[0,1,2,3,4,5,6,7,8],[9,8,8,0,1,2,3,4,5,6,7,8]])))) (.gz (sq 30 [mv 8,bi .sub 30 1]++sq 8 [mv 31]))))))) (.seq (.gz (sq 51 [la 3 6]++s0 (sr 3 4 51))) .ret))))))
theorem wR:lE Tryz.prog 110 sw 52 [.cell 4 3 true]:=mf Tryz.func110 Tryz.ntmps110
def pN(sig:fI)(c0:fI)(r:gk)(r_1:fI):(Int×Int×Int×fP)->Option ((Int×Int×Int×fP)⊕(fI×fI×fP×Int×Int))
 |(k,c,c_1,r_3)=>
  if(decide (0<k))=true then
   if(decide (0<(r_1.length:Int)))=true then
    (kg sig 2 0 c0 c c_1).bind fun r_4=>
    (iC 2 c0 r_4.2.1 r_4.2.2).bind fun r_5=>
    if r_5.1=true then
     if 0<=0/\0<(r_1.length:Int)then
      (kg sig 2 3 c0 r_5.2.1 r_5.2.2).bind fun r_6=>
      if(r_3.length+1)*48<=140737488355328 then
       some (.inl ((IntKind.i64.wrap (k-1)),r_6.2.1,r_6.2.2,(r_3++[([(r_1.getD 0 default)],r_6.1)])))
      else none
     else none
    else
     (kg sig 2 3 c0 r_5.2.1 r_5.2.2).bind fun r_7=>
     if(r_3.length+1)*48<=140737488355328 then
      some (.inl ((IntKind.i64.wrap (k-1)),r_7.2.1,r_7.2.2,(r_3++[(r_4.1,r_7.1)])))
     else none
   else
    Option.map Sum.inr (
     some (r.1,r.2.1,r_3,c,c_1))
  else
   Option.map Sum.inr (
    some (r.1,r.2.1,r_3,c,c_1))
def nq(sig:fI)(c0:fI)(c1:Int)(c2:Int):Option (fI×fI×fP×Int×Int):=
 (nM sig c0 c1 c2).bind fun r=>
 (mo r.1).bind fun r_1=>
 (gF 3 c0 r.2.2.1 r.2.2.2).bind fun r_2=>
 gI (pN sig c0 r r_1) (r_2.1,r_2.2.1,r_2.2.2,[])
instance G2{sig:fI}{c0:Cd}{c1:Int}{c2:Int}:iH (nq sig c0.l c1 c2) fun rr=>hY Tryz.prog 110 [.ptr 0 0,.d (.agg [gN 1 iD sig])] [(0,.obj 75 [.nm c0.v 1 (List.map (kD .u8) c0.l),.d (iD c1),.d (iD c2)])] 1 fun xx ss=>xx=.agg [.own 1 900000 (List.map iD rr.1),.own 1 900001 (List.map iD rr.2.1),.own 2 900002 (List.map ir rr.2.2.1)]/\ss=[(0,.obj 75 [.nm c0.v 1 (List.map (kD .u8) c0.l),.d (iD rr.2.2.2.1),.d (iD rr.2.2.2.2)]),(900000,.tok 2 1 rr.1.length),(900001,.tok 2 1 rr.2.1.length),(900002,.jj 89 2 rr.2.2.1.length (jJ (List.map ir rr.2.2.1)))]:=⟨@fun rr h=>by
 delta nq at h;refine wR.uw (gv ?_);delta sw;refine iL ?_;refine mA [(0,0)] [(900000,12),(900001,200000)] h fun r hr h=>?_
 refine rC h fun r_1 hr_1 h=>?_
 refine mA [(0,0)] [] h fun r_2 hr_2 h=>?_
 refine rZ h [8,9,12,14,16,17,19,23,24,25,26,27,28,29,30,31,32,33,34,35,36,37,38,39,40,41,42,43,44,45,46,47,48,49,50] (fun pp=>[(8,.d (iD pp.1))]) (fun pp=>[(0,.obj 75 [.nm c0.v 1 (List.map (kD .u8) c0.l),.d (iD pp.2.1),.d (iD pp.2.2.1)]),(3,.obj 26 [.d (gN 1 iD sig)]),(4,.obj 55 [.d (.sl 0 (some true) []),.d (.sl 0 (some true) []),.d (.sl 0 (some true) [])]),(5,.obj 68 [.own 1 12 (List.map iD r.1),.own 1 200000 (List.map iD r.2.1)]),(6,.obj 55 [.own 1 12 (List.map iD r.1),.own 1 200000 (List.map iD r.2.1),.own 2 49 (List.map ir pp.2.2.2)]),(12,.tok 2 1 r.1.length),(49,.jj 89 2 pp.2.2.2.length (jJ (List.map ir pp.2.2.2))),(200000,.tok 2 1 r.2.1.length)]) ?_ ?_
 ·try dsimp only
  refine(iB.FN 6 2 49 89 2 rfl rfl rfl).trans ?_;exact wk
 rintro⟨k,c,c_1,r_3⟩ t1 h hb1;unfold pN at h;try dsimp only at h
 refine gv (iL ?_);refine it h (fun hc h=>?_) fun hc h=>?_
 ·refine it h (fun hc h=>?_) fun hc h=>?_
  ·refine mA [(0,0)] [(900000,34)] h fun r_4 hr_4 h=>?_
   refine mA [(0,0)] [] h fun r_5 hr_5 h=>?_
   refine it h (fun hc h=>?_) fun hc h=>?_
   ·refine kz h fun hp h=>?_
    refine wu [(0,0)] [(900000,46)] h fun r_6 hr_6 h=>?_
    refine Cy ?_;refine kz h fun hp h=>?_
    refine jo (by kernel_rfl) (iL ?_);cases h;refine⟨_,rfl,?_⟩;refine(iB.xg 49 40 0 rfl rfl gu (by decide) (Whole.flat (f:=iD) (xs:=[(r_1.getD 0 default)]) (t:=2) (n:=1) (by first|rfl|(simp[sat,iG,sset,gS,jv,gJ,Ob.hG,Ob.kill,gw];done)) (by simp))).trans ?_;simp only[iq,ij,gX,ig,ie,gW,gJ,gT,gK,gL,gV,gU,gM,Ob.hG,Ob.kill,AV.gY,AV.hG,ic,gC,gA,gw,aq,ak,Nat.reduceEqDiff,Nat.reduceLT,↓reduceIte,reduceCtorEq,bE,av];refine(iB.drop 40 gu).trans ?_;simp only[iq,ij,gX,ig,ie,gW,gJ,gT,gK,gL,gV,gU,gM,Ob.hG,Ob.kill,AV.gY,AV.hG,ic,gC,gA,gw,aq,ak,Nat.reduceEqDiff,Nat.reduceLT,↓reduceIte,reduceCtorEq,bE,av];refine(iB.xg 49 46 1 rfl rfl gu (by decide) (Whole.flat (t:=2) (n:=r_6.1.length) (by first|rfl|(simp[sat,iG,sset,gS,jv,gJ,Ob.hG,Ob.kill,gw];done)) (by simp))).trans ?_;simp only[iq,ij,gX,ig,ie,gW,gJ,gT,gK,gL,gV,gU,gM,Ob.hG,Ob.kill,AV.gY,AV.hG,ic,gC,gA,gw,aq,ak,Nat.reduceEqDiff,Nat.reduceLT,↓reduceIte,reduceCtorEq,bE,av];refine(iB.drop 46 gu).trans ?_;simp only[iq,ij,gX,ig,ie,gW,gJ,gT,gK,gL,gV,gU,gM,Ob.hG,Ob.kill,AV.gY,AV.hG,ic,gC,gA,gw,aq,ak,Nat.reduceEqDiff,Nat.reduceLT,↓reduceIte,reduceCtorEq,bE,av];refine(iB.Gz 49 (jJ (List.map ir (r_3++[([(r_1.getD 0 default)],r_6.1)]))) rfl (by first|rfl|(rw[aP,lA];rfl)|(simp only[go_sem,AV.gY,AV.hG,aP,lA];first|done|rfl))).trans ?_;refine(iB.drop 34 gu).trans ?_;refine(iB.drop 48 gu).trans ?_;exact wk
   refine wu [(0,0)] [(900000,46)] h fun r_7 hr_7 h=>?_
   refine Cy ?_;refine kz h fun hp h=>?_
   refine jo (by kernel_rfl) (iL ?_);cases h;refine⟨_,rfl,?_⟩;refine(iB.xg 49 34 0 rfl rfl gu (by decide) (Whole.flat (t:=2) (n:=r_4.1.length) (by first|rfl|(simp[sat,iG,sset,gS,jv,gJ,Ob.hG,Ob.kill,gw];done)) (by simp))).trans ?_;simp only[iq,ij,gX,ig,ie,gW,gJ,gT,gK,gL,gV,gU,gM,Ob.hG,Ob.kill,AV.gY,AV.hG,ic,gC,gA,gw,aq,ak,Nat.reduceEqDiff,Nat.reduceLT,↓reduceIte,reduceCtorEq,bE,av];refine(iB.drop 34 gu).trans ?_;simp only[iq,ij,gX,ig,ie,gW,gJ,gT,gK,gL,gV,gU,gM,Ob.hG,Ob.kill,AV.gY,AV.hG,ic,gC,gA,gw,aq,ak,Nat.reduceEqDiff,Nat.reduceLT,↓reduceIte,reduceCtorEq,bE,av];refine(iB.xg 49 46 1 rfl rfl gu (by decide) (Whole.flat (t:=2) (n:=r_7.1.length) (by first|rfl|(simp[sat,iG,sset,gS,jv,gJ,Ob.hG,Ob.kill,gw];done)) (by simp))).trans ?_;simp only[iq,ij,gX,ig,ie,gW,gJ,gT,gK,gL,gV,gU,gM,Ob.hG,Ob.kill,AV.gY,AV.hG,ic,gC,gA,gw,aq,ak,Nat.reduceEqDiff,Nat.reduceLT,↓reduceIte,reduceCtorEq,bE,av];refine(iB.drop 46 gu).trans ?_;simp only[iq,ij,gX,ig,ie,gW,gJ,gT,gK,gL,gV,gU,gM,Ob.hG,Ob.kill,AV.gY,AV.hG,ic,gC,gA,gw,aq,ak,Nat.reduceEqDiff,Nat.reduceLT,↓reduceIte,reduceCtorEq,bE,av];refine(iB.Gz 49 (jJ (List.map ir (r_3++[(r_4.1,r_7.1)]))) rfl (by first|rfl|(rw[aP,lA];rfl)|(simp only[go_sem,AV.gY,AV.hG,aP,lA];first|done|rfl))).trans ?_;refine(iB.drop 48 gu).trans ?_;exact wk
  replace h:=g_ h hb1;cases h;exact gx.trans ((gx.trans (gx.move 12 900000 (ob:=.tok 2 1 r.1.length) gu gu gu rfl (by first|rfl|(simp;done)|(simp[sat,iG,sset,gS,jv,gJ,Ob.hG,Ob.kill,gw];done))) (gx.trans (gx.move 200000 900001 (ob:=.tok 2 1 r.2.1.length) gu gu gu rfl (by first|rfl|(simp;done)|(simp[sat,iG,sset,gS,jv,gJ,Ob.hG,Ob.kill,gw];done))) (gx.trans (gx.move 49 900002 (ob:=.jj 89 2 r_3.length (jJ (List.map ir r_3))) gu gu gu rfl (by first|rfl|(simp;done)|(simp[sat,iG,sset,gS,jv,gJ,Ob.hG,Ob.kill,gw];done))) (gx.iP [3,4,5,6] (by simp)))))) (gx.told q_ lC)
 replace h:=g_ h hb1;cases h;exact gx.trans ((gx.trans (gx.move 12 900000 (ob:=.tok 2 1 r.1.length) gu gu gu rfl (by first|rfl|(simp;done)|(simp[sat,iG,sset,gS,jv,gJ,Ob.hG,Ob.kill,gw];done))) (gx.trans (gx.move 200000 900001 (ob:=.tok 2 1 r.2.1.length) gu gu gu rfl (by first|rfl|(simp;done)|(simp[sat,iG,sset,gS,jv,gJ,Ob.hG,Ob.kill,gw];done))) (gx.trans (gx.move 49 900002 (ob:=.jj 89 2 r_3.length (jJ (List.map ir r_3))) gu gu gu rfl (by first|rfl|(simp;done)|(simp[sat,iG,sset,gS,jv,gJ,Ob.hG,Ob.kill,gw];done))) (gx.iP [3,4,5,6] (by simp)))))) (gx.told q_ lC)⟩
def xw:gR:=
 (.seq (.gz (sq 2 [.alloc 2 29 [.sl 0 (some true) [],.sl 0 (some true) []]])) (.seq (.seq (.gz (sq 5 [mv 0,.ji 40 [(t0 5),(i0 3)],nt 6])) (.cond (t0 7) (.seq (.gz (sq 8 [mv 0,.ji 39 [(t0 8),(i0 3)],cf 108 [9]]++s0 (sr 2 2 10))) .ret) .skip)) (.seq (.gz (sq 11 [mv 0,cf 109 [11],.build [.sl 0 (some true) [],.sl 0 (some true) []] [(0,1,(t0 12))]]++sq 3 [.alloc 3 29 [.sl 0 (some true) [],.sl 0 (some true) []]]++s0 (sr 2 3 13))) (.seq (.seq (.gz (sq 14 [mv 0,.ji 39 [(t0 14),(i0 3)]]++sq 4 [mv 15])) (.block 0 (.loop (.seq (.seq (.gz (sq 16 [mv 4,bi .gtr 16 0])) (.cond (t0 17) .skip (.exit 0))) (.seq (.block 1 (.draw (sq 20 [fa 1 3,ld 20,mv 0,fa 0 3,la 1 23,cf 110 [22,24],.yu 26 55 3 [(t0 25)],.CN 27 55 3 72 (t0 21) (t0 26),fa 1 3]++s0 (sr 1 28 27)) [[],[0],[],[],[3],[2,4],[5],[1,6,5],[0,1,2,3,4,5,6,7],[8,7,7,0,1,2,3,4,5,6,7]])) (.gz (sq 18 [mv 4,bi .sub 18 1]++sq 4 [mv 19]))))))) (.seq (.gz (sq 29 [la 2 3]++s0 (sr 2 2 29))) .ret)))))
theorem A9:lE Tryz.prog 78 xw 30 [.cell 2 2 true]:=mf Tryz.func78 Tryz.ntmps78
def uj(c0:fI)(r_1:fL):(Int×Int×Int×ga)->Option ((Int×Int×Int×ga)⊕(fI×ga×Int×Int))
 |(k,c,c_1,cs)=>
  if(decide (0<k))=true then
   (nq r_1.1 c0 c c_1).bind fun r_3=>
   if(cs.length+1)*72<=140737488355328 then
    some (.inl ((IntKind.i64.wrap (k-1)),r_3.2.2.2.1,r_3.2.2.2.2,(cs++[(r_3.1,r_3.2.1,r_3.2.2.1)])))
   else none
  else
   Option.map Sum.inr (
    some (r_1.1,cs,c,c_1))
def qk(c0:fI)(c1:Int)(c2:Int):Option (fI×ga×Int×Int):=
 (iC 3 c0 c1 c2).bind fun r=>
 if r.1=true then
  (oh c0 r.2.1 r.2.2).bind fun r_1=>
  (gF 3 c0 r_1.2.1 r_1.2.2).bind fun r_2=>
  gI (uj c0 r_1) (r_2.1,r_2.2.1,r_2.2.2,[])
 else
  (gF 3 c0 r.2.1 r.2.2).bind fun r_4=>
  (oK r_4.1).bind fun r_5=>
  some (r_5.1,r_5.2,r_4.2.1,r_4.2.2)
instance Dn{c0:Cd}{c1:Int}{c2:Int}:iH (qk c0.l c1 c2) fun rr=>hY Tryz.prog 78 [.ptr 0 0] [(0,.obj 75 [.nm c0.v 1 (List.map (kD .u8) c0.l),.d (iD c1),.d (iD c2)])] 1 fun xx ss=>xx=.agg [.own 1 900000 (List.map iD rr.1),.own 3 900001 (List.map gB rr.2.1)]/\ss=[(0,.obj 75 [.nm c0.v 1 (List.map (kD .u8) c0.l),.d (iD rr.2.2.1),.d (iD rr.2.2.2)]),(900000,.tok 2 1 rr.1.length),(900001,.jj 55 3 rr.2.1.length (jJ (List.map gB rr.2.1)))]:=⟨@fun rr h=>by
 delta qk at h;refine A9.uw (gv ?_);delta xw;refine iL ?_;refine mA [(0,0)] [] h fun r hr h=>?_
 refine it h (fun hc h=>?_) fun hc h=>?_
 ·refine mA [(0,0)] [(900000,12)] h fun r_1 hr_1 h=>?_
  refine mA [(0,0)] [] h fun r_2 hr_2 h=>?_
  refine rZ h [4,12,13,16,17,18,19,20,21,22,23,24,25,26,27,28] (fun pp=>[(4,.d (iD pp.1))]) (fun pp=>[(0,.obj 75 [.nm c0.v 1 (List.map (kD .u8) c0.l),.d (iD pp.2.1),.d (iD pp.2.2.1)]),(2,.obj 29 [.d (.sl 0 (some true) []),.d (.sl 0 (some true) [])]),(3,.obj 29 [.own 1 12 (List.map iD r_1.1),.own 3 27 (List.map gB pp.2.2.2)]),(12,.tok 2 1 r_1.1.length),(27,.jj 55 3 pp.2.2.2.length (jJ (List.map gB pp.2.2.2)))]) ?_ ?_
  ·try dsimp only
   refine(iB.FN 3 1 27 55 3 rfl rfl rfl).trans ?_;exact wk
  rintro⟨k,c,c_1,cs⟩ t1 h hb1;unfold uj at h;try dsimp only at h
  refine gv (iL ?_);refine it h (fun hc h=>?_) fun hc h=>?_
  ·refine wu [(0,0)] [(900000,25),(900001,200000),(900002,200001)] h fun r_3 hr_3 h=>?_
   refine Cy ?_;refine kz h fun hp h=>?_
   refine jo (by kernel_rfl) (iL ?_);cases h;refine⟨_,rfl,?_⟩;refine(iB.xg 27 25 0 rfl rfl gu (by decide) (Whole.flat (t:=2) (n:=r_3.1.length) (by first|rfl|(simp[sat,iG,sset,gS,jv,gJ,Ob.hG,Ob.kill,gw];done)) (by simp))).trans ?_;simp only[iq,ij,gX,ig,ie,gW,gJ,gT,gK,gL,gV,gU,gM,Ob.hG,Ob.kill,AV.gY,AV.hG,ic,gC,gA,gw,aq,ak,Nat.reduceEqDiff,Nat.reduceLT,↓reduceIte,reduceCtorEq,bE,av];refine(iB.drop 25 gu).trans ?_;simp only[iq,ij,gX,ig,ie,gW,gJ,gT,gK,gL,gV,gU,gM,Ob.hG,Ob.kill,AV.gY,AV.hG,ic,gC,gA,gw,aq,ak,Nat.reduceEqDiff,Nat.reduceLT,↓reduceIte,reduceCtorEq,bE,av];refine(iB.xg 27 200000 1 rfl rfl gu (by decide) (Whole.flat (t:=2) (n:=r_3.2.1.length) (by first|rfl|(simp[sat,iG,sset,gS,jv,gJ,Ob.hG,Ob.kill,gw];done)) (by simp))).trans ?_;simp only[iq,ij,gX,ig,ie,gW,gJ,gT,gK,gL,gV,gU,gM,Ob.hG,Ob.kill,AV.gY,AV.hG,ic,gC,gA,gw,aq,ak,Nat.reduceEqDiff,Nat.reduceLT,↓reduceIte,reduceCtorEq,bE,av];refine(iB.drop 200000 gu).trans ?_;simp only[iq,ij,gX,ig,ie,gW,gJ,gT,gK,gL,gV,gU,gM,Ob.hG,Ob.kill,AV.gY,AV.hG,ic,gC,gA,gw,aq,ak,Nat.reduceEqDiff,Nat.reduceLT,↓reduceIte,reduceCtorEq,bE,av];refine(iB.xg 27 200001 2 rfl rfl gu (by decide) (Whole.deep (t:=89) (n:=r_3.2.2.1.length) (by first|rfl|(simp[sat,iG,sset,gS,jv,gJ,Ob.hG,Ob.kill,gw];done)) (by simp))).trans ?_;simp only[iq,ij,gX,ig,ie,gW,gJ,gT,gK,gL,gV,gU,gM,Ob.hG,Ob.kill,AV.gY,AV.hG,ic,gC,gA,gw,aq,ak,Nat.reduceEqDiff,Nat.reduceLT,↓reduceIte,reduceCtorEq,bE,av];refine(iB.drop 200001 gu).trans ?_
   simp only[iq,ij,gX,ig,ie,gW,gJ,gT,gK,gL,gV,gU,gM,Ob.hG,Ob.kill,AV.gY,AV.hG,ic,gC,gA,gw,aq,ak,Nat.reduceEqDiff,Nat.reduceLT,↓reduceIte,reduceCtorEq,bE,av];refine(iB.Gz 27 (jJ (List.map gB (cs++[(r_3.1,r_3.2.1,r_3.2.2.1)]))) rfl (by first|rfl|(rw[aP,lA];rfl)|(simp only[go_sem,AV.gY,AV.hG,aP,lA];first|done|rfl))).trans ?_;refine(iB.drop 26 gu).trans ?_;exact wk
  replace h:=g_ h hb1;cases h;exact gx.trans ((gx.trans (gx.move 12 900000 (ob:=.tok 2 1 r_1.1.length) gu gu gu rfl (by first|rfl|(simp;done)|(simp[sat,iG,sset,gS,jv,gJ,Ob.hG,Ob.kill,gw];done))) (gx.trans (gx.move 27 900001 (ob:=.jj 55 3 cs.length (jJ (List.map gB cs))) gu gu gu rfl (by first|rfl|(simp;done)|(simp[sat,iG,sset,gS,jv,gJ,Ob.hG,Ob.kill,gw];done))) (gx.iP [2,3] (by simp))))) (gx.told q_ lC)
 refine mA [(0,0)] [] h fun r_4 hr_4 h=>?_
 refine mA [] [(900000,10),(900001,200000)] h fun r_5 hr_5 h=>?_
 cases h;exact gx.trans ((gx.trans (gx.move 10 900000 (ob:=.tok 2 1 r_5.1.length) gu gu gu rfl (by first|rfl|(simp;done)|(simp[sat,iG,sset,gS,jv,gJ,Ob.hG,Ob.kill,gw];done))) (gx.trans (gx.move 200000 900001 (ob:=.jj 55 3 r_5.2.length (jJ (List.map gB r_5.2))) gu gu gu rfl (by first|rfl|(simp;done)|(simp[sat,iG,sset,gS,jv,gJ,Ob.hG,Ob.kill,gw];done))) (gx.iP [2] (by simp))))) (gx.told q_ lC)⟩
def W5:gR:=
 (.seq (.gz (sq 6 [mi 0])) (.seq (.gz (sq 7 [mv 1,mv 0,mv 2,mv 1,bn .sub 9 10,bi .add 11 1,cf 39 [8,12],bn .add 7 13]++sq 6 [mv 14])) .ret))
theorem Zd:lE Tryz.prog 41 W5 15 [.tmp 6]:=mf Tryz.func41 Tryz.ntmps41
def mj(lo:Int)(hi:Int)(c0:fI)(c1:Int)(c2:Int):Option (Int×Int×Int):=
 (gF (IntKind.i64.wrap ((IntKind.i64.wrap (hi-lo))+1)) c0 c1 c2).bind fun r=>
 some ((IntKind.i64.wrap (lo+r.1)),r.2.1,r.2.2)
instance QU{lo:Int}{hi:Int}{c0:Cd}{c1:Int}{c2:Int}:iH (mj lo hi c0.l c1 c2) fun rr=>hY Tryz.prog 41 [.ptr 0 0,.d (iD lo),.d (iD hi)] [(0,.obj 75 [.nm c0.v 1 (List.map (kD .u8) c0.l),.d (iD c1),.d (iD c2)])] 1 fun xx ss=>xx=.d (iD rr.1)/\ss=[(0,.obj 75 [.nm c0.v 1 (List.map (kD .u8) c0.l),.d (iD rr.2.1),.d (iD rr.2.2)])]:=⟨@fun rr h=>by
 delta mj at h;refine Zd.nN (gv ?_);delta W5;refine iL ?_;refine mA [(0,0)] [] h fun r hr h=>?_
 exact od⟩
def tQ:gR:=
 (.seq (.gz (sq 2 [.alloc 2 26 [.sl 0 (some true) []]])) (.seq (.gz (sq 5 [.yY 5 2 1 [(i0 2),(i0 1),(i0 0)],.build [.sl 0 (some true) []] [(0,1,(t0 5))]]++sq 3 [.alloc 3 26 [.sl 0 (some true) []]]++s0 (sr 1 3 6))) (.seq (.seq (.gz (sq 7 [mv 0,.ji 40 [(t0 7),(i0 4)]])) (.cond (t0 8) (.seq (.gz (sq 9 [.yY 9 2 1 [(i0 0)],.build [.sl 0 (some true) []] [(0,1,(t0 9))]]++s0 (sr 1 3 10))) (.seq (.gz (sq 11 [mv 0,.ji 39 [(t0 11),(i0 4)]]++sq 4 [mv 12])) (.block 0 (.loop (.seq (.seq (.gz (sq 13 [mv 4,bi .gtr 13 0])) (.cond (t0 14) .skip (.exit 0))) (.seq (.block 1 (.draw (sq 17 [fa 0 3,ld 17,mv 0,.ji 39 [(t0 19),(i0 3)],.mH 21 2 1 [(t0 20)],ap 22 2 1 8 18 21,fa 0 3]++s0 (sr 1 23 22)) [[],[0],[],[2],[3],[1,4,3],[0,1,2,3,4,5],[6,5,5,0,1,2,3,4,5]])) (.gz (sq 15 [mv 4,bi .sub 15 1]++sq 4 [mv 16])))))))) .skip)) (.seq (.gz (sq 24 [la 1 3]++s0 (sr 1 2 24))) .ret))))
theorem xW:lE Tryz.prog 109 tQ 25 [.cell 2 1 true]:=mf Tryz.func109 Tryz.ntmps109
def uf(c0:fI):fS->Option (fS⊕fL)
 |(n,c,c_1,g9)=>
  if(decide (0<n))=true then
   (gF 3 c0 c c_1).bind fun r_2=>
   if(g9.length+1)*8<=140737488355328 then
    some (.inl ((IntKind.i64.wrap (n-1)),r_2.2.1,r_2.2.2,(g9++[r_2.1])))
   else none
  else
   Option.map Sum.inr (
    some (g9,c,c_1))
def om(c0:fI)(c1:Int)(c2:Int):Option fL:=
 (iC 4 c0 c1 c2).bind fun r=>
 if r.1=true then
  (gF 4 c0 r.2.1 r.2.2).bind fun r_1=>
  gI (uf c0) (r_1.1,r_1.2.1,r_1.2.2,[0])
 else
  some ([2,1,0],r.2.1,r.2.2)
instance IX{c0:Cd}{c1:Int}{c2:Int}:iH (om c0.l c1 c2) fun rr=>hY Tryz.prog 109 [.ptr 0 0] [(0,.obj 75 [.nm c0.v 1 (List.map (kD .u8) c0.l),.d (iD c1),.d (iD c2)])] 1 fun xx ss=>xx=.agg [.mL 1 900000 rr.1.length]/\ss=[(0,.obj 75 [.nm c0.v 1 (List.map (kD .u8) c0.l),.d (iD rr.2.1),.d (iD rr.2.2)]),(900000,.lO 2 1 rr.1.length (jT iD rr.1))]:=⟨@fun rr h=>by
 delta om at h;refine xW.uw (gv ?_);delta tQ;refine iL ?_;refine mA [(0,0)] [] h fun r hr h=>?_
 refine it h (fun hc h=>?_) fun hc h=>?_
 ·refine mA [(0,0)] [] h fun r_1 hr_1 h=>?_
  refine jV h [4,13,14,15,16,17,18,19,20,21,22,23] (fun pp=>[(4,.d (iD pp.1))]) (fun pp=>[(0,.obj 75 [.nm c0.v 1 (List.map (kD .u8) c0.l),.d (iD pp.2.1),.d (iD pp.2.2.1)]),(2,.obj 26 [.d (.sl 0 (some true) [])]),(3,.obj 26 [.mL 1 9 pp.2.2.2.length]),(5,.lO 2 1 3 (jT iD [2,1,0])),(9,.lO 2 1 pp.2.2.2.length (jT iD pp.2.2.2))]) ?_;rintro⟨n,c,c_1,g9⟩ t1 h hb1;unfold uf at h;try dsimp only at h
  refine gv (iL ?_);refine it h (fun hc h=>?_) fun hc h=>?_
  ·refine wu [(0,0)] [] h fun r_2 hr_2 h=>?_
   refine kz h fun hp h=>?_
   refine jo (by kernel_rfl) (iL ?_);cases h;refine⟨_,rfl,?_⟩;refine(iB.drop 21 gu).trans ?_;exact wk
  replace h:=g_ h hb1;cases h;exact gx.trans ((gx.trans (gx.move 9 900000 (ob:=.lO 2 1 g9.length (jT iD g9)) gu gu gu rfl (by first|rfl|(simp;done)|(simp[sat,iG,sset,gS,jv,gJ,Ob.hG,Ob.kill,gw];done))) (gx.iP [2,3,5] (by simp)))) (gx.told q_ lC)
 cases h;exact gx.trans ((gx.trans (gx.move 5 900000 (ob:=.lO 2 1 3 (jT iD [2,1,0])) gu gu gu rfl (by first|rfl|(simp;done)|(simp[sat,iG,sset,gS,jv,gJ,Ob.hG,Ob.kill,gw];done))) (gx.iP [2,3] (by simp)))) (gx.told q_ lC)⟩
def XD:gR:=
 (.seq (.gz (sq 2 [.alloc 2 26 [.sl 0 (some true) []]])) (.seq (.gz (sq 4 [mv 0,cf 109 [4]]++sq 3 [.alloc 3 26 [.sl 0 (some true) []]]++s0 (sr 1 3 5))) (.seq (.seq (.gz (sq 6 [mv 0,.ji 40 [(t0 6),(i0 15)]])) (.cond (t0 7) (.seq (.gz (sq 8 [mv 0,.ji 39 [(t0 8),(i0 3)]])) (.block 0 (.seq (.gz (sq 11 [bi .eql 9 0]++sq 10 [mv 11])) (.cond (t0 10) (.draw (sq 12 [fa 0 3,ld 12,mv 0,.ji 41 [(t0 14),(i0 (-1)),(i0 4)],.mH 16 2 1 [(t0 15)],ap 17 2 1 8 13 16,fa 0 3]++s0 (sr 1 18 17)) [[],[0],[],[2],[3],[1,4,3],[0,1,2,3,4,5],[6,5,5,0,1,2,3,4,5]]) (.seq (.gz (sq 20 [bi .eql 9 1]++sq 19 [mv 20])) (.cond (t0 19) (.gz (sq 21 [.mH 21 2 1 [],fa 0 3]++s0 (sr 1 22 21))) (.seq (.gz (sq 24 [bi .eql 9 2]++sq 23 [mv 24])) (.cond (t0 23) (.gz (sq 25 [mv 0,.ji 39 [(t0 25),(i0 2)],.bin .add (i0 8) (t0 26),.zy 28 2 1 8 [.lit (.int .i64 0)] false (t0 27) (t0 27),fa 0 3]++s0 (sr 1 29 28))) .skip)))))))) .skip)) (.seq (.gz (sq 30 [la 1 3]++s0 (sr 1 2 30))) .ret))))
theorem ZI:lE Tryz.prog 79 XD 31 [.cell 2 1 true]:=mf Tryz.func79 Tryz.ntmps79
def og(c0:fI)(c1:Int)(c2:Int):Option fL:=
 (om c0 c1 c2).bind fun r=>
 (iC 15 c0 r.2.1 r.2.2).bind fun r_1=>
 if r_1.1=true then
  (gF 3 c0 r_1.2.1 r_1.2.2).bind fun r_2=>
  if(r_2.1==0)=true then
   (mj (-1) 4 c0 r_2.2.1 r_2.2.2).bind fun r_3=>
   if(r.1.length+1)*8<=140737488355328 then
    some ((r.1++[r_3.1]),r_3.2.1,r_3.2.2)
   else none
  else
   if(r_2.1==1)=true then
    some ([],r_2.2.1,r_2.2.2)
   else
    if(r_2.1==2)=true then
     (gF 2 c0 r_2.2.1 r_2.2.2).bind fun r_4=>
     if 0<=(IntKind.i64.wrap (8+r_4.1))/\8*(IntKind.i64.wrap (8+r_4.1))<=281474976710656/\(IntKind.i64.wrap (8+r_4.1))<4611686018427387904 then
      if(List.replicate (IntKind.i64.wrap (8+r_4.1)).toNat (0:Int)).length=(IntKind.i64.wrap (8+r_4.1)).toNat then
       some ((List.replicate (IntKind.i64.wrap (8+r_4.1)).toNat (0:Int)),r_4.2.1,r_4.2.2)
      else none
     else none
    else
     some (r.1,r_2.2.1,r_2.2.2)
 else
  some (r.1,r_1.2.1,r_1.2.2)
instance IV{c0:Cd}{c1:Int}{c2:Int}:iH (og c0.l c1 c2) fun rr=>hY Tryz.prog 79 [.ptr 0 0] [(0,.obj 75 [.nm c0.v 1 (List.map (kD .u8) c0.l),.d (iD c1),.d (iD c2)])] 1 fun xx ss=>xx=.d (.agg [gN 1 iD rr.1])/\ss=[(0,.obj 75 [.nm c0.v 1 (List.map (kD .u8) c0.l),.d (iD rr.2.1),.d (iD rr.2.2)])]:=⟨@fun rr h=>by
 delta og at h;refine ZI.uw (gv ?_);delta XD;refine iL ?_;refine mA [(0,0)] [(900000,5)] h fun r hr h=>?_
 refine mA [(0,0)] [] h fun r_1 hr_1 h=>?_
 refine it h (fun hc h=>?_) fun hc h=>?_
 ·refine mA [(0,0)] [] h fun r_2 hr_2 h=>?_
  refine it h (fun hc h=>?_) fun hc h=>?_
  ·refine wu [(0,0)] [] h fun r_3 hr_3 h=>?_
   refine kz h fun hp h=>?_
   refine jo (by kernel_rfl) (iL ?_);cases h;exact gx.trans ((gx.trans (gx.fz 5 iD rfl (r.1++[r_3.1])) (gx.iP [2,3,16] (by simp)))) (gx.told q_ lC)
  refine it h (fun hc h=>?_) fun hc h=>?_
  ·cases h;exact gx.trans ((gx.iP [2,3,5,21] (by simp))) (gx.told q_ lC)
  refine it h (fun hc h=>?_) fun hc h=>?_
  ·refine mA [(0,0)] [] h fun r_4 hr_4 h=>?_
   refine kz h fun hp h=>?_
   refine kz h fun hp h=>?_
   cases h;exact gx.trans ((gx.trans (gx.Ws 28 iD (List.replicate (IntKind.i64.wrap (8+r_4.1)).toNat (0:Int)) gu rfl) (gx.iP [2,3,5] (by simp)))) (gx.told q_ lC)
  cases h;exact gx.trans ((gx.trans (gx.fz 5 iD rfl r.1) (gx.iP [2,3] (by simp)))) (gx.told q_ lC)
 cases h;exact gx.trans ((gx.trans (gx.fz 5 iD rfl r.1) (gx.iP [2,3] (by simp)))) (gx.told q_ lC)⟩
end Go.Proofs.YtelhemjlfkbkeaaGreat
