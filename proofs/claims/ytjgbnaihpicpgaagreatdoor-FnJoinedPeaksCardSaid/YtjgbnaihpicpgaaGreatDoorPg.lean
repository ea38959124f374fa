/- A part of the proof about FnJoinedPeaks (H1, H2). -/
import Derived.Test.YtjgbnaihpicpgaaGreatDoorPe
set_option linter.all false
noncomputable section
namespace Go.Proofs.YtjgbnaihpicpgaaGreatDoor
open Go mm
attribute [local irreducible] rj vP uV mz lN nj kj Au Bm zm Bl yp tF lM nc AJ iS kN
set_option maxHeartbeats 4000000
set_option maxRecDepth 4000
def S_:ie:=
 (.seq (.h_ (sq 3 [bo 3 30 0]++sq 6 [mi 0])) (.seq (.h_ (sq 7 [mi 1])) (.seq (.block 0 (.loop (.seq (.seq (.h_ (sq 8 [mv 7,bi .gtr 8 0])) (.cond (t0 9) .skip (.exit 0))) (.block 1 (.seq (.seq (.h_ (sq 10 [mv 1,mv 2,ix 1 10 11,ld 12,bi .geq 13 0])) (.cond (t0 14) (.draw (sq 15 [mv 7,fa 0 3,ld 16,mv 1,mv 2,ix 1 18 19,ld 20,ix 1 17 21,ld 22,bn .add 15 23]++sq 7 [mv 24]) [[],[],[1],[],[],[3,4],[5],[2,6],[7],[0,8],[9,0,1,2,3,4,5,6,7,8,9]]) .skip)) (.seq (.h_ (sq 25 [mv 7,bi .sub 25 1]++sq 7 [mv 26])) (.h_ (sq 27 [mv 2,bi .add 27 1]++sq 2 [mv 28])))))))) (.seq (.h_ (sq 29 [mv 2]++sq 6 [mv 29])) .ret))))
theorem WB:kH Tryz.prog 102 S_ 30 [.tmp 6]:=mf Tryz.func102 Tryz.ntmps102
def oV(sig:gv)(t:gv):gO->Option (gO⊕Int)
 |(at'_1,need)=>
  if(decide (0<need))=true then
   if 0<=at'_1/\at'_1<(t.length:Int)then
    if(decide (0<=(t.getD at'_1.toNat default)))=true then
     if 0<=(t.getD at'_1.toNat default)/\(t.getD at'_1.toNat default)<(sig.length:Int)then
      some (.inl ((IntKind.i64.wrap (at'_1+1)),(IntKind.i64.wrap ((IntKind.i64.wrap (need+(sig.getD (t.getD at'_1.toNat default).toNat default)))-1))))
     else none
    else
     some (.inl ((IntKind.i64.wrap (at'_1+1)),(IntKind.i64.wrap (need-1))))
   else none
  else
   Option.map Sum.inr (
    some at'_1)
def pY(sig:gv)(t:gv)(at':Int):Option Int:=
 iw (oV sig t) (at',1)
instance Qa{sig:gv}{t:gv}{at':Int}:iR (pY sig t at') fun rr=>jU Tryz.prog 102 [jd sig,(ia 1 iD) t,iD at'] (iD rr):=⟨@fun rr h=>by
 delta pY at h;refine WB.jC (gZ ?_);delta S_;refine iN ?_;refine kT h [2,7,8,9,10,11,12,13,14,15,16,17,18,19,20,21,22,23,24,25,26,27,28] (fun pp=>[(2,.d (iD pp.1)),(7,.d (iD pp.2))]) (fun pp=>[(3,.obj 30 [.d (ia 1 iD sig)])]) ?_;rintro⟨at'_1,need⟩ t1 h hb1;unfold oV at h;try dsimp only at h
 refine gZ (iN ?_);exact mA⟩
def Ta:ie:=
 (.seq (.h_ (sq 4 [.mv (.const (.slice none 0 0))])) (.seq (.h_ (sq 7 [.mP 7 2 1 []]++sq 5 [mv 7])) (.seq (.seq (.h_ (sq 6 [mi 0])) (.block 0 (.loop (.seq (.seq (.h_ (sq 8 [mv 6,mv 0,ln 9,bn .lss 8 10])) (.cond (t0 11) .skip (.exit 0))) (.seq (.block 1 (.seq (.h_ (sq 14 [mv 0,mv 6,ix 1 14 15,ld 16,bi .lss 17 0])) (.cond (t0 18) (.h_ (sq 19 [mv 5,mv 0,mv 6,ix 1 20 21,ld 22,mv 1,bn .sub 23 24,.mP 26 2 1 [(t0 25)],ap 27 2 1 8 19 26]++sq 5 [mv 27])) (.h_ (sq 28 [mv 5,mv 0,mv 6,ix 1 29 30,ld 31,.mP 33 2 1 [(t0 32)],ap 34 2 1 8 28 33]++sq 5 [mv 34]))))) (.h_ (sq 12 [mv 6,bi .add 12 1]++sq 6 [mv 13]))))))) (.seq (.h_ (sq 35 [mv 5]++sq 4 [mv 35])) .ret))))
theorem WC:kH Tryz.prog 103 Ta 36 [.tmp 4]:=mf Tryz.func103 Tryz.ntmps103
def qi(t:gv)(k:Int):gH->Option gX
 |(out,i)=>
  if(decide (i<(t.length:Int)))=true then
   if 0<=i/\i<(t.length:Int)then
    if(decide ((t.getD i.toNat default)<0))=true then
     if(out.length+1)*8<=140737488355328 then
      some (.inl ((out++[(IntKind.i64.wrap ((t.getD i.toNat default)-k))]),(IntKind.i64.wrap (i+1))))
     else none
    else
     if(out.length+1)*8<=140737488355328 then
      some (.inl ((out++[(t.getD i.toNat default)]),(IntKind.i64.wrap (i+1))))
     else none
   else none
  else
   Option.map Sum.inr (
    some out)
def oT(t:gv)(k:Int):Option gv:=
 iw (qi t k) ([],0)
instance Nw{t:gv}{k:Int}:iR (oT t k) fun rr=>jU Tryz.prog 103 [(ia 1 iD) t,iD k] ((ia 1 iD) rr):=⟨@fun rr h=>by
 delta oT at h;refine WC.jC (gZ ?_);delta Ta;refine iN ?_;refine kT h [5,6,8,9,10,11,12,13,14,15,16,17,18,19,20,21,22,23,24,25,26,27,28,29,30,31,32,33,34] (fun pp=>[(5,.own 1 7 (List.map iD pp.1)),(6,.d (iD pp.2))]) (fun pp=>[(7,.tok 2 1 pp.1.length)]) ?_;rintro⟨out,i⟩ t1 h hb1;unfold qi at h;try dsimp only at h
 refine gZ (iN ?_);refine iT h fun hc1 h=>?_
 refine j_ h fun hp h=>?_
 refine it h (fun hc2 h=>?_) fun hc2 h=>?_
 ·refine qa ?_;refine j_ h fun hp h=>?_
  cases h;refine⟨_,rfl,?_⟩;refine(iL.drop 26 gY).trans ?_;exact wk
 refine qa ?_;refine j_ h fun hp h=>?_
 cases h;refine⟨_,rfl,?_⟩;refine(iL.drop 33 gY).trans ?_;exact wk⟩
def TI:ie:=
 (.seq (.h_ (sq 4 [.mv (.const (.slice none 0 0))])) (.seq (.block 0 (.loop (.seq (.seq (.draw (sq 5 [mv 1,.uE 1 (t0 5) (i0 0),ld 6,bi .lss 7 0,mv 8]++sg 9 true 10 [mv 0,.me (t0 10),fa 0 11,ld 12,mv 1,.uE 1 (t0 14) (i0 0),ld 15,.bin .sub (i0 (-1)) (t0 16),ix 1 13 17,ld 18,ln 19,bi .gtr 20 0]++sq 22 [pa 9 21]) [[],[0],[1],[2],[3],[4],[5,4],[6,4],[7,4],[4],[9,4],[10,4],[11,4],[8,12,4],[13,4],[14,4],[15,4],[4,16]]) (.cond (t0 22) .skip (.exit 0))) (.block 1 (.draw (sq 23 [mv 0,.me (t0 23),fa 0 24,ld 25,mv 1,.uE 1 (t0 27) (i0 0),ld 28,.bin .sub (i0 (-1)) (t0 29),ix 1 26 30,ld 31]++sq 1 [mv 32]) [[],[0],[1],[2],[],[4],[5],[6],[3,7],[8],[9,0,1,2,3,4,5,6,7,8,9]]))))) (.seq (.h_ (sq 33 [mv 1]++sq 4 [mv 33])) .ret)))
theorem Xl:kH Tryz.prog 148 TI 34 [.tmp 4]:=mf Tryz.func148 Tryz.ntmps148
def ow(l1:gx):gv->Option (gv⊕gv)
 |t_1=>
  if 0<=0/\0<(t_1.length:Int)then
   if(decide ((t_1.getD 0 default)<0))=true then
    if 0<=(IntKind.i64.wrap ((-1)-(t_1.getD 0 default)))/\(IntKind.i64.wrap ((-1)-(t_1.getD 0 default)))<(48:Int)/\(IntKind.i64.wrap ((-1)-(t_1.getD 0 default)))<(l1.length:Int)then
     if(decide (0<((l1.getD (IntKind.i64.wrap ((-1)-(t_1.getD 0 default))).toNat default).length:Int)))=true then
      some (.inl (l1.getD (IntKind.i64.wrap ((-1)-(t_1.getD 0 default))).toNat default))
     else
      Option.map Sum.inr (
       some t_1)
    else none
   else
    Option.map Sum.inr (
     some t_1)
  else none
def oU(t:gv)(l1:gx):Option gv:=
 iw (ow l1) t
instance Nx{t:gv}{l1:gx}:iR (oU t l1) fun rr=>iC Tryz.prog 148 [.ptr 0 0,.d (ia 1 iD t)] [(0,.obj 198 [.pV 1 1 0 48]),(1,.obj 22 (List.map (aD (ia 1 iD)) l1))] 2 fun xx ss=>xx=.d (ia 1 iD rr)/\ss=[(0,.obj 198 [.pV 1 1 0 48]),(1,.obj 22 (List.map (aD (ia 1 iD)) l1))]:=⟨@fun rr h=>by
 delta oU at h;refine Xl.lO (gZ ?_);delta TI;refine iN ?_;refine kT h [1,5,6,7,8,9,10,11,12,13,14,15,16,17,18,19,20,21,22,23,24,25,26,27,28,29,30,31,32] (fun pp=>[(1,.d (ia 1 iD pp))]) (fun pp=>[(0,.obj 198 [.pV 1 1 0 48]),(1,.obj 22 (List.map (aD (ia 1 iD)) l1))]) ?_;rintro t_1 t1 h hb1;unfold ow at h;try dsimp only at h
 refine gZ (iN ?_);exact mA⟩
def uA:ie:=
 (.seq (.h_ (sq 6 [mb false])) (.seq (.h_ (sq 11 [mv 0,.me (t0 11),fa 0 12,ld 13,ln 14,.zO 16 4 1 1 [.lit (.bool false)] false (t0 15) (t0 15)]++sq 7 [mv 16])) (.seq (.h_ (sq 17 [mv 2,.zM 18 22 1 [(t0 17)]]++sq 8 [mv 18])) (.seq (.block 0 (.loop (.seq (.seq (.h_ (sq 19 [mv 8,ln 19,bi .gtr 20 0])) (.cond (t0 21) .skip (.exit 0))) (.block 1 (.seq (.h_ (sq 22 [mv 8,mv 8,ln 23,bi .sub 24 1,ix 1 22 25,ld 26]++sq 9 [mv 27])) (.seq (.h_ (sq 28 [mv 8,mv 8,ln 29,bi .sub 30 1,.DZ (t0 28) 1 (t0 31)]++sq 8 [mv 32])) (.seq (.h_ (sq 10 [mi 0])) (.block 2 (.loop (.seq (.seq (.h_ (sq 33 [mv 10,mv 9,ln 34,bn .lss 33 35])) (.cond (t0 36) .skip (.exit 2))) (.seq (.block 3 (.seq (.seq (.h_ (sq 39 [mv 9,mv 10,ix 1 39 40,ld 41,mv 1,bn .eql 42 43])) (.cond (t0 44) (.seq (.h_ (sq 6 [mb true])) .ret) .skip)) (.seq (.draw (sq 45 [mv 9,mv 10,ix 1 45 46,ld 47,bi .lss 48 0,mv 49]++sg 50 true 51 [mv 7,mv 9,mv 10,ix 1 52 53,ld 54,.bin .sub (i0 (-1)) (t0 55),ix 1 51 56,ld 57,nt 58]++sq 60 [pa 50 59,mv 60]++sg 61 true 62 [mv 0,.me (t0 62),fa 0 63,ld 64,mv 9,mv 10,ix 1 66 67,ld 68,.bin .sub (i0 (-1)) (t0 69),ix 1 65 70,ld 71,ln 72,bi .gtr 73 0]++sq 75 [pa 61 74]) [[],[],[0,1],[2],[3],[4],[5],[5],[5],[7,8,5],[9,5],[10,5],[6,11,5],[12,5],[13,5],[5,14],[15,5],[16],[17,16],[18,16],[19,16],[16],[16],[21,22,16],[23,16],[24,16],[20,25,16],[26,16],[27,16],[28,16],[16,29]]) (.cond (t0 75) (.seq (.h_ (sq 76 [mv 7,mv 9,mv 10,ix 1 77 78,ld 79,.bin .sub (i0 (-1)) (t0 80),ix 1 76 81]++s0 (.store 1 (t0 82) (.const (.bool true))))) (.draw (sq 83 [mv 8,mv 0,.me (t0 84),fa 0 85,ld 86,mv 9,mv 10,ix 1 88 89,ld 90,.bin .sub (i0 (-1)) (t0 91),ix 1 87 92,ld 93,.mP 95 22 1 [(t0 94)],ap 96 22 1 24 83 95]++sq 8 [mv 96]) [[],[],[1],[2],[3],[],[],[5,6],[7],[8],[4,9],[10],[11],[0,12],[13,13,0,1,2,3,4,5,6,7,8,9,10,11,12,13]])) .skip)))) (.h_ (sq 37 [mv 10,bi .add 37 1]++sq 10 [mv 38]))))))))))))) (.seq (.h_ (sq 6 [mb false])) .ret)))))
theorem yL:kH Tryz.prog 149 uA 97 [.tmp 6]:=mf Tryz.func149 Tryz.ntmps149
def lJ(x:Int)(l1:gx)(g18:gx):(Int×gQ×gx)->Option ((Int×gQ×gx)⊕((gQ×gx)⊕Bool))
 |(i,l16_1,g18_1)=>
  if(decide (i<((g18.getD (IntKind.i64.wrap ((g18.length:Int)-1)).toNat default).length:Int)))=true then
   if 0<=i/\i<((g18.getD (IntKind.i64.wrap ((g18.length:Int)-1)).toNat default).length:Int)then
    if(((g18.getD (IntKind.i64.wrap ((g18.length:Int)-1)).toNat default).getD i.toNat default)==x)=true then
     Option.map Sum.inr (
      Option.map Sum.inr (
       some true))
    else
     if(decide (((g18.getD (IntKind.i64.wrap ((g18.length:Int)-1)).toNat default).getD i.toNat default)<0))=true then
      if 0<=(IntKind.i64.wrap ((-1)-((g18.getD (IntKind.i64.wrap ((g18.length:Int)-1)).toNat default).getD i.toNat default)))/\(IntKind.i64.wrap ((-1)-((g18.getD (IntKind.i64.wrap ((g18.length:Int)-1)).toNat default).getD i.toNat default)))<(48:Int)/\(IntKind.i64.wrap ((-1)-((g18.getD (IntKind.i64.wrap ((g18.length:Int)-1)).toNat default).getD i.toNat default)))<(l16_1.length:Int)then
       if(l16_1.getD (IntKind.i64.wrap ((-1)-((g18.getD (IntKind.i64.wrap ((g18.length:Int)-1)).toNat default).getD i.toNat default))).toNat default)=true then
        some (.inl ((IntKind.i64.wrap (i+1)),l16_1,g18_1))
       else
        if 0<=(IntKind.i64.wrap ((-1)-((g18.getD (IntKind.i64.wrap ((g18.length:Int)-1)).toNat default).getD i.toNat default)))/\(IntKind.i64.wrap ((-1)-((g18.getD (IntKind.i64.wrap ((g18.length:Int)-1)).toNat default).getD i.toNat default)))<(48:Int)/\(IntKind.i64.wrap ((-1)-((g18.getD (IntKind.i64.wrap ((g18.length:Int)-1)).toNat default).getD i.toNat default)))<(l1.length:Int)then
         if(decide (0<((l1.getD (IntKind.i64.wrap ((-1)-((g18.getD (IntKind.i64.wrap ((g18.length:Int)-1)).toNat default).getD i.toNat default))).toNat default).length:Int)))=true then
          if(g18_1.length+1)*24<=140737488355328 then
           some (.inl ((IntKind.i64.wrap (i+1)),(l16_1.set (IntKind.i64.wrap ((-1)-((g18.getD (IntKind.i64.wrap ((g18.length:Int)-1)).toNat default).getD i.toNat default))).toNat true),(g18_1++[(l1.getD (IntKind.i64.wrap ((-1)-((g18.getD (IntKind.i64.wrap ((g18.length:Int)-1)).toNat default).getD i.toNat default))).toNat default)])))
          else none
         else
          some (.inl ((IntKind.i64.wrap (i+1)),l16_1,g18_1))
        else none
      else none
     else
      some (.inl ((IntKind.i64.wrap (i+1)),l16_1,g18_1))
   else none
  else
   Option.map Sum.inr (
    some (.inl (l16_1,g18_1)))
def mN(x:Int)(l1:gx):(gQ×gx)->Option ((gQ×gx)⊕Bool)
 |(l16,g18)=>
  if(decide (0<(g18.length:Int)))=true then
   if 0<=(IntKind.i64.wrap ((g18.length:Int)-1))/\(IntKind.i64.wrap ((g18.length:Int)-1))<(g18.length:Int)then
    if 0<=(IntKind.i64.wrap ((g18.length:Int)-1))/\(IntKind.i64.wrap ((g18.length:Int)-1))<=(g18.length:Int)then
     iw (lJ x l1 g18) (0,l16,(g18.take (IntKind.i64.wrap ((g18.length:Int)-1)).toNat))
    else none
   else none
  else
   Option.map Sum.inr (
    some false)
def lZ(x:Int)(t:gv)(l1:gx):Option Bool:=
 iw (mN x l1) ((List.replicate 48 false),[t])
instance Lj{x:Int}{t:gv}{l1:gx}:iR (lZ x t l1) fun rr=>iC Tryz.prog 149 [.ptr 0 0,.d (iD x),.d (ia 1 iD t)] [(0,.obj 198 [.pV 1 1 0 48]),(1,.obj 22 (List.map (aD (ia 1 iD)) l1))] 2 fun xx ss=>xx=.d (bD rr)/\ss=[(0,.obj 198 [.pV 1 1 0 48]),(1,.obj 22 (List.map (aD (ia 1 iD)) l1))]:=⟨@fun rr h=>by
 delta lZ at h;refine yL.lO (gZ ?_);delta uA;refine iN ?_;refine qa ?_;refine kT h [6,8,9,10,18,19,20,21,22,23,24,25,26,27,28,29,30,31,32,33,34,35,36,37,38,39,40,41,42,43,44,45,46,47,48,49,50,51,52,53,54,55,56,57,58,59,60,61,62,63,64,65,66,67,68,69,70,71,72,73,74,75,76,77,78,79,80,81,82,83,84,85,86,87,88,89,90,91,92,93,94,95,96] (fun pp=>[(8,.nr 1 18 pp.2.length)]) (fun pp=>[(0,.obj 198 [.pV 1 1 0 48]),(1,.obj 22 (List.map (aD (ia 1 iD)) l1)),(16,.obj 4 (List.map (aD bD) pp.1)),(18,.kQ 22 1 pp.2.length (kP (ia 1 iD) pp.2))]) ?_;rintro⟨l16,g18⟩ t1 h hb1;unfold mN at h;try dsimp only at h
 refine gZ (iN ?_);refine it h (fun hc1 h=>?_) fun hc1 h=>?_
 ·refine j_ h fun hp h=>?_
  refine qa ?_;refine j_ h fun hp h=>?_
  refine kT h [6,8,10,33,34,35,36,37,38,39,40,41,42,43,44,45,46,47,48,49,50,51,52,53,54,55,56,57,58,59,60,61,62,63,64,65,66,67,68,69,70,71,72,73,74,75,76,77,78,79,80,81,82,83,84,85,86,87,88,89,90,91,92,93,94,95,96] (fun pp=>[(8,.nr 1 18 pp.2.2.length),(10,.d (iD pp.1))]) (fun pp=>[(0,.obj 198 [.pV 1 1 0 48]),(1,.obj 22 (List.map (aD (ia 1 iD)) l1)),(16,.obj 4 (List.map (aD bD) pp.2.1)),(18,.kQ 22 1 pp.2.2.length (kP (ia 1 iD) pp.2.2))]) ?_;rintro⟨i,l16_1,g18_1⟩ t2 h hb2;unfold lJ at h;try dsimp only at h
  refine gZ (iN ?_);refine iT h fun hc2 h=>?_
  refine j_ h fun hp h=>?_
  refine it h (fun hc3 h=>?_) fun hc3 h=>?_
  ·replace h:=iZ h hb2;replace h:=iZ h hb1;cases h;exact⟨[16,18],by simp,mT,mT⟩
  refine qa ?_;refine iT h fun hc4 h=>?_
  refine qa ?_;refine j_ h fun hp h=>?_
  refine iF h fun hc5 h=>?_
  refine qa ?_;refine j_ h fun hp h=>?_
  refine jV (by kernel_rfl) (iN ?_);refine iT h fun hc6 h=>?_
  refine qa ?_;refine qa ?_;refine qa ?_;refine qa ?_;refine j_ h fun hp h=>?_
  refine jV (by kernel_rfl) (iN ?_);cases h;refine⟨_,rfl,?_⟩;refine(iL.drop 95 gY).trans ?_;exact wk
 replace h:=iZ h hb1;cases h;exact⟨[16,18],by simp,mT,mT⟩⟩
def TJ:ie:=
 (.seq (.h_ (sq 2 [bo 2 30 0]++sq 4 [.mv (.const (.slice none 0 0))])) (.seq (.h_ (sq 9 [.mP 9 22 1 []]++sq 5 [mv 9])) (.seq (.seq (.h_ (sq 10 [mv 1,.uE 1 (t0 10) (i0 0),ld 11,bi .lss 12 0])) (.cond (t0 13) (.seq (.h_ (sq 14 [mv 5]++sq 4 [mv 14])) .ret) .skip)) (.seq (.h_ (sq 6 [mi 1])) (.seq (.seq (.h_ (sq 7 [mi 0])) (.block 0 (.loop (.seq (.seq (.draw (sq 15 [mv 7,fa 0 2,ld 16,mv 1,.uE 1 (t0 18) (i0 0),ld 19,ix 1 17 20,ld 21,bn .lss 15 22]) [[],[],[1],[],[3],[4],[2,5],[6],[0,7]]) (.cond (t0 23) .skip (.exit 0))) (.seq (.block 1 (.seq (.h_ (sq 26 [la 1 2,mv 1,mv 6,cf 102 [26,27,28]]++sq 8 [mv 29])) (.seq (.h_ (sq 30 [mv 5,mv 1,mv 6,mv 8,.slc (t0 31) 1 (some (t0 32)) (some (t0 33)) none,.mP 35 22 1 [(t0 34)],ap 36 22 1 24 30 35]++sq 5 [mv 36])) (.h_ (sq 37 [mv 8]++sq 6 [mv 37]))))) (.h_ (sq 24 [mv 7,bi .add 24 1]++sq 7 [mv 25]))))))) (.seq (.h_ (sq 38 [mv 5]++sq 4 [mv 38])) .ret))))))
theorem Xm:kH Tryz.prog 150 TJ 39 [.tmp 4]:=mf Tryz.func150 Tryz.ntmps150
def nH(sig:gv)(t:gv):(gx×Int×Int)->Option ((gx×Int×Int)⊕gx)
 |(out,at',k)=>
  if 0<=(t.getD 0 default)/\(t.getD 0 default)<(sig.length:Int)then
   if(decide (k<(sig.getD (t.getD 0 default).toNat default)))=true then
    (pY sig t at').bind fun r=>
    if 0<=at'/\at'<=r/\r<=(t.length:Int)then
     if(out.length+1)*24<=140737488355328 then
      some (.inl ((out++[((t.take r.toNat).drop at'.toNat)]),r,(IntKind.i64.wrap (k+1))))
     else none
    else none
   else
    Option.map Sum.inr (
     some out)
  else none
def oa(sig:gv)(t:gv):Option gx:=
 if 0<=0/\0<(t.length:Int)then
  if(decide ((t.getD 0 default)<0))=true then
   some []
  else
   iw (nH sig t) ([],1,0)
 else none
instance MT{sig:gv}{t:gv}:iR (oa sig t) fun rr=>jU Tryz.prog 150 [jd sig,(ia 1 iD) t] ((ia 1 (ia 1 iD)) rr):=⟨@fun rr h=>by
 delta oa at h;refine Xm.jC (gZ ?_);delta TJ;refine iN ?_;refine j_ h fun hp h=>?_
 refine iF h fun hc1 h=>?_
 refine kT h [5,6,7,8,15,16,17,18,19,20,21,22,23,24,25,26,27,28,29,30,31,32,33,34,35,36,37] (fun pp=>[(5,.own 1 9 (List.map (ia 1 iD) pp.1)),(6,.d (iD pp.2.1)),(7,.d (iD pp.2.2))]) (fun pp=>[(2,.obj 30 [.d (ia 1 iD sig)]),(9,.tok 22 1 pp.1.length)]) ?_;rintro⟨out,at',k⟩ t1 h hb1;unfold nH at h;try dsimp only at h
 refine gZ (iN ?_);refine qa ?_;refine j_ h fun hp h=>?_
 refine jV (by kernel_rfl) (iN ?_);refine iT h fun hc2 h=>?_
 refine rC h fun r hr h=>?_
 refine j_ h fun hp h=>?_
 refine j_ h fun hp h=>?_
 cases h;refine⟨_,rfl,?_⟩;refine(iL.drop 35 gY).trans ?_;exact wk⟩
def vH:ie:=
 (.seq (.h_ (sq 4 [bo 4 30 0]++sq 8 [mb false])) (.seq (.h_ (sq 13 [mv 2,.zM 14 22 1 [(t0 13)]]++sq 9 [mv 14])) (.seq (.h_ (sq 15 [mv 3,.zM 16 22 1 [(t0 15)]]++sq 10 [mv 16])) (.seq (.block 0 (.loop (.seq (.seq (.h_ (sq 17 [mv 9,ln 17,bi .gtr 18 0])) (.cond (t0 19) .skip (.exit 0))) (.block 1 (.seq (.h_ (sq 20 [mv 1,mv 9,mv 9,ln 22,bi .sub 23 1,ix 1 21 24,ld 25,cf 148 [20,26]]++sq 11 [mv 27])) (.seq (.h_ (sq 28 [mv 1,mv 10,mv 10,ln 30,bi .sub 31 1,ix 1 29 32,ld 33,cf 148 [28,34]]++sq 12 [mv 35])) (.seq (.h_ (sq 36 [mv 9,mv 9,ln 37,bi .sub 38 1,.DZ (t0 36) 1 (t0 39)]++sq 9 [mv 40])) (.seq (.h_ (sq 41 [mv 10,mv 10,ln 42,bi .sub 43 1,.DZ (t0 41) 1 (t0 44)]++sq 10 [mv 45])) (.block 2 (.seq (.draw (sq 57 [mv 11,.uE 1 (t0 57) (i0 0),ld 58,mv 12,.uE 1 (t0 60) (i0 0),ld 61,bn .eql 59 62,mv 63]++sg 64 true 65 [mv 11,.uE 1 (t0 65) (i0 0),ld 66,bi .lss 67 0]++sq 69 [pa 64 68]++sq 56 [mv 69]) [[],[0],[1],[],[3],[4],[2,5],[6],[7],[8,7],[9,7],[10,7],[7,11],[12,7]]) (.cond (t0 56) (.exit 1) (.seq (.h_ (sq 71 [mv 11,.uE 1 (t0 71) (i0 0),ld 72,bi .lss 73 0]++sq 70 [mv 74])) (.cond (t0 70) (.seq (.seq (.h_ (sq 75 [mv 1,mv 11,.uE 1 (t0 76) (i0 0),ld 77,mv 12,cf 149 [75,78,79]])) (.cond (t0 80) (.seq (.h_ (sq 8 [mb false])) .ret) .skip)) (.draw (sq 81 [mv 1,.me (t0 81),fa 0 82,ld 83,mv 11,.uE 1 (t0 85) (i0 0),ld 86,.bin .sub (i0 (-1)) (t0 87),mv 12,ix 1 84 88]++s0 (sr 1 90 89)) [[],[0],[1],[2],[],[4],[5],[6],[],[3,7,0,1,2,3,4,5,6,7,8],[9,8,0,1,2,3,4,5,6,7,8]])) (.seq (.h_ (sq 92 [mv 12,.uE 1 (t0 92) (i0 0),ld 93,bi .lss 94 0]++sq 91 [mv 95])) (.cond (t0 91) (.seq (.seq (.h_ (sq 96 [mv 1,mv 12,.uE 1 (t0 97) (i0 0),ld 98,mv 11,cf 149 [96,99,100]])) (.cond (t0 101) (.seq (.h_ (sq 8 [mb false])) .ret) .skip)) (.draw (sq 102 [mv 1,.me (t0 102),fa 0 103,ld 104,mv 12,.uE 1 (t0 106) (i0 0),ld 107,.bin .sub (i0 (-1)) (t0 108),mv 11,ix 1 105 109]++s0 (sr 1 111 110)) [[],[0],[1],[2],[],[4],[5],[6],[],[3,7,0,1,2,3,4,5,6,7,8],[9,8,0,1,2,3,4,5,6,7,8]])) (.seq (.draw (sq 113 [mv 11,.uE 1 (t0 113) (i0 0),ld 114,mv 12,.uE 1 (t0 116) (i0 0),ld 117,bn .neq 115 118]++sq 112 [mv 119]) [[],[0],[1],[],[3],[4],[2,5],[6]]) (.cond (t0 112) (.seq (.h_ (sq 8 [mb false])) .ret) (.seq (.h_ (sq 46 [mv 9,la 1 4,mv 11,cf 150 [47,48],ap 50 22 1 24 46 49]++sq 9 [mv 50])) (.h_ (sq 51 [mv 10,la 1 4,mv 12,cf 150 [52,53],ap 55 22 1 24 51 54]++sq 10 [mv 55])))))))))))))))))))) (.seq (.h_ (sq 8 [mb true])) .ret)))))
theorem Aj:kH Tryz.prog 133 vH 120 [.tmp 8]:=mf Tryz.func133 Tryz.ntmps133
def mK(sig:gv):(gx×gx×gx)->Option ((gx×gx×gx)⊕(Bool×gx))
 |(b,g14,g16)=>
  if(decide (0<(g14.length:Int)))=true then
   if 0<=(IntKind.i64.wrap ((g14.length:Int)-1))/\(IntKind.i64.wrap ((g14.length:Int)-1))<(g14.length:Int)then
    (oU (g14.getD (IntKind.i64.wrap ((g14.length:Int)-1)).toNat default) b).bind fun r=>
    if 0<=(IntKind.i64.wrap ((g16.length:Int)-1))/\(IntKind.i64.wrap ((g16.length:Int)-1))<(g16.length:Int)then
     (oU (g16.getD (IntKind.i64.wrap ((g16.length:Int)-1)).toNat default) b).bind fun r_1=>
     if 0<=(IntKind.i64.wrap ((g14.length:Int)-1))/\(IntKind.i64.wrap ((g14.length:Int)-1))<=(g14.length:Int)then
      if 0<=(IntKind.i64.wrap ((g16.length:Int)-1))/\(IntKind.i64.wrap ((g16.length:Int)-1))<=(g16.length:Int)then
       if 0<=0/\0<(r.length:Int)then
        if 0<=0/\0<(r_1.length:Int)then
         if((r.getD 0 default)==(r_1.getD 0 default))=true then
          if(decide ((r.getD 0 default)<0))=true then
           some (.inl (b,(g14.take (IntKind.i64.wrap ((g14.length:Int)-1)).toNat),(g16.take (IntKind.i64.wrap ((g16.length:Int)-1)).toNat)))
          else
           (oa sig r).bind fun r_4=>
           if((g14.take (IntKind.i64.wrap ((g14.length:Int)-1)).toNat).length+r_4.length)*24<=140737488355328 then
            (oa sig r_1).bind fun r_5=>
            if((g16.take (IntKind.i64.wrap ((g16.length:Int)-1)).toNat).length+r_5.length)*24<=140737488355328 then
             some (.inl (b,((g14.take (IntKind.i64.wrap ((g14.length:Int)-1)).toNat)++r_4),((g16.take (IntKind.i64.wrap ((g16.length:Int)-1)).toNat)++r_5)))
            else none
           else none
         else
          if(decide ((r.getD 0 default)<0))=true then
           (lZ (r.getD 0 default) r_1 b).bind fun r_6=>
           if r_6=true then
            Option.map Sum.inr (
             some (false,b))
           else
            if 0<=(IntKind.i64.wrap ((-1)-(r.getD 0 default)))/\(IntKind.i64.wrap ((-1)-(r.getD 0 default)))<(48:Int)/\(IntKind.i64.wrap ((-1)-(r.getD 0 default)))<(b.length:Int)then
             some (.inl ((b.set (IntKind.i64.wrap ((-1)-(r.getD 0 default))).toNat r_1),(g14.take (IntKind.i64.wrap ((g14.length:Int)-1)).toNat),(g16.take (IntKind.i64.wrap ((g16.length:Int)-1)).toNat)))
            else none
          else
           if(decide ((r_1.getD 0 default)<0))=true then
            (lZ (r_1.getD 0 default) r b).bind fun r_7=>
            if r_7=true then
             Option.map Sum.inr (
              some (false,b))
            else
             if 0<=(IntKind.i64.wrap ((-1)-(r_1.getD 0 default)))/\(IntKind.i64.wrap ((-1)-(r_1.getD 0 default)))<(48:Int)/\(IntKind.i64.wrap ((-1)-(r_1.getD 0 default)))<(b.length:Int)then
              some (.inl ((b.set (IntKind.i64.wrap ((-1)-(r_1.getD 0 default))).toNat r),(g14.take (IntKind.i64.wrap ((g14.length:Int)-1)).toNat),(g16.take (IntKind.i64.wrap ((g16.length:Int)-1)).toNat)))
             else none
           else
            Option.map Sum.inr (
             some (false,b))
        else none
       else none
      else none
     else none
    else none
   else none
  else
   Option.map Sum.inr (
    some (true,b))
def mF(sig:gv)(s:gv)(t:gv)(l1:gx):Option (Bool×gx):=
 iw (mK sig) (l1,[s],[t])
instance Ny{sig:gv}{s:gv}{t:gv}{l1:gx}:iR (mF sig s t l1) fun rr=>iC Tryz.prog 133 [.d (.agg [ia 1 iD sig]),.ptr 0 0,.d (ia 1 iD s),.d (ia 1 iD t)] [(0,.obj 198 [.pV 1 1 0 48]),(1,.obj 22 (List.map (aD (ia 1 iD)) l1))] 2 fun xx ss=>xx=.d (bD rr.1)/\ss=[(0,.obj 198 [.pV 1 1 0 48]),(1,.obj 22 (List.map (aD (ia 1 iD)) rr.2))]:=⟨@fun rr h=>by
 delta mF at h;refine Aj.lO (gZ ?_);delta vH;refine iN ?_;refine kT h [8,9,10,11,12,14,16,17,18,19,20,21,22,23,24,25,26,27,28,29,30,31,32,33,34,35,36,37,38,39,40,41,42,43,44,45,46,47,48,49,50,51,52,53,54,55,56,57,58,59,60,61,62,63,64,65,66,67,68,69,70,71,72,73,74,75,76,77,78,79,80,81,82,83,84,85,86,87,88,89,90,91,92,93,94,95,96,97,98,99,100,101,102,103,104,105,106,107,108,109,110,111,112,113,114,115,116,117,118,119] (fun pp=>[(9,.nr 1 14 pp.2.1.length),(10,.nr 1 16 pp.2.2.length)]) (fun pp=>[(0,.obj 198 [.pV 1 1 0 48]),(1,.obj 22 (List.map (aD (ia 1 iD)) pp.1)),(4,.obj 30 [.d (ia 1 iD sig)]),(14,.kQ 22 1 pp.2.1.length (kP (ia 1 iD) pp.2.1)),(16,.kQ 22 1 pp.2.2.length (kP (ia 1 iD) pp.2.2))]) ?_;rintro⟨b,g14,g16⟩ t1 h hb1;unfold mK at h;try dsimp only at h
 refine gZ (iN ?_);refine it h (fun hc1 h=>?_) fun hc1 h=>?_
 ·refine j_ h fun hp h=>?_
  refine qa ?_;refine rB [(0,0),(1,1)] [] h fun r hr h=>?_
  refine j_ h fun hp h=>?_
  refine qa ?_;refine rB [(0,0),(1,1)] [] h fun r_1 hr_1 h=>?_
  refine j_ h fun hp h=>?_
  refine j_ h fun hp h=>?_
  refine j_ h fun hp h=>?_
  refine j_ h fun hp h=>?_
  refine it h (fun hc2 h=>?_) fun hc2 h=>?_
  ·refine qa ?_;refine jV (by kernel_rfl) (iN ?_);refine iF h fun hc3 h=>?_
   refine qa ?_;have hc:=hc3;refine rz hc ?_;refine qa ?_;have hc:(decide ((r_1.getD 0 default)<0))=false:=by simp only[bw,dZ,fP,av,cm,bW,cP]at hc1 hc2 hc3⊢;omega
   refine rz hc ?_;refine qa ?_;refine qa ?_;refine jV (by kernel_rfl) (iN ?_);have hc:((r.getD 0 default) != (r_1.getD 0 default))=false:=by simp only[bw,dZ,fP,av,cm,bW,cP]at hc1 hc2 hc3⊢;omega
   refine rz hc ?_;exact mA
  refine jV (by kernel_rfl) (iN ?_);refine qa ?_;refine it h (fun hc4 h=>?_) fun hc4 h=>?_
  ·refine qa ?_;refine rB [(0,0),(1,1)] [] h fun r_6 hr_6 h=>?_
   refine iT h fun hc5 h=>?_
   replace h:=iZ h hb1;cases h;exact⟨[4,14,16],by simp,mT,mT⟩
  refine qa ?_;refine it h (fun hc6 h=>?_) fun hc6 h=>?_
  ·refine qa ?_;refine rB [(0,0),(1,1)] [] h fun r_7 hr_7 h=>?_
   refine iT h fun hc7 h=>?_
   replace h:=iZ h hb1;cases h;exact⟨[4,14,16],by simp,mT,mT⟩
  refine qa ?_;refine qa ?_;refine jV (by kernel_rfl) (iN ?_);have hc:((r.getD 0 default) != (r_1.getD 0 default))=true:=by simp only[bw,dZ,fP,av,cm,bW,cP]at hc1 hc2 hc4 hc6⊢;omega
  refine rz hc ?_;replace h:=iZ h hb1;cases h;exact⟨[4,14,16],by simp,mT,mT⟩
 replace h:=iZ h hb1;cases h;exact⟨[4,14,16],by simp,mT,mT⟩⟩
def wg:ie:=
 (.seq (.h_ (sq 4 [bo 4 33 0]++sq 8 [.mv (.const (.pointer none)),mb false])) (.seq (.h_ (sq 13 [.zO 13 22 1 24 [.sl 0 (some true) []] false (i0 48) (i0 48),.build [.sl 0 (some true) []] [(0,1,(t0 13))],bo 15 198 14]++sq 10 [mv 15])) (.seq (.h_ (sq 16 [fa 1 4,ld 16,mv 1,ix 2 17 18,fa 0 19,ld 20]++sq 11 [mv 21])) (.seq (.h_ (sq 22 [fa 0 4,la 1 22,mv 11,mv 2,cf 102 [23,24,25]]++sq 12 [mv 26])) (.seq (.ghost (.draw (sq 27 [mv 10,fa 0 4,la 1 28,mv 10,mv 11,mv 2,mv 12,.slc (t0 31) 1 (some (t0 32)) (some (t0 33)) none,fa 1 4,ld 35,mv 3,ix 2 36 37,fa 0 38,ld 39,.kA 103 [(t0 40),(i0 24)],cf 133 [29,30,34,41]]++sq 8 [mv 27,mv 42]) [[],[],[1],[],[],[],[],[4,5,6],[],[8],[],[9,10],[11],[12],[13],[2,3,7,14,14],[0,15,0],[15,16,0,1,2,3,4,5,6,7,8,9,10,11,12,13,14,15,16]])) .ret)))))
theorem AN:kH Tryz.prog 101 wg 43 [.tmp 8,.tmp 9]:=mf Tryz.func101 Tryz.ntmps101
def mq(sys:gJ)(over:Int)(at':Int)(under:Int):Option (Bool×gx):=
 if 0<=over/\over<(sys.2.length:Int)then
  (pY sys.1 ((sys.2.getD over.toNat default).1) at').bind fun r=>
  if 0<=at'/\at'<=r/\r<=(((sys.2.getD over.toNat default).1).length:Int)then
   if 0<=under/\under<(sys.2.length:Int)then
    (oT ((sys.2.getD under.toNat default).1) 24).bind fun r_1=>
    (mF sys.1 ((((sys.2.getD over.toNat default).1).take r.toNat).drop at'.toNat) r_1 (List.replicate 48 [])).bind fun r_2=>
    some r_2
   else none
  else none
 else none
instance P_{sys:gJ}{over:Int}{at':Int}{under:Int}:iR (mq sys over at' under) fun rr=>iC Tryz.prog 101 [.d (.agg [ia 1 iD sys.1,ia 2 g_ sys.2]),.d (iD over),.d (iD at'),.d (iD under)] [] 0 fun xx ss=>xx=.mj [.ptr 15 0,.d (bD rr.1)]/\ss=[(13,.obj 22 (List.map (aD (ia 1 iD)) rr.2)),(15,.obj 198 [.pV 1 13 0 48])]:=⟨@fun rr h=>by
 delta mq at h;refine AN.lO (gZ ?_);delta wg;refine iN ?_;refine qa ?_;refine j_ h fun hp h=>?_
 refine rC h fun r hr h=>?_
 refine kj.of ((iL.V8 (s':=[(4,.obj 33 [.d (ia 1 iD sys.1),.d (ia 2 g_ sys.2)]),(13,.obj 22 (List.map (aD (ia 1 iD)) (List.replicate 48 []))),(15,.obj 198 [.pV 1 13 0 48])]) (iS.refl _) mT)) ?_;refine iN ?_;refine j_ h fun hp h=>?_
 refine j_ h fun hp h=>?_
 refine dC h fun r_1 hr_1 h=>?_
 refine UL [(0,15),(1,13)] [] h fun r_2 hr_2 h=>?_
 refine jV (by kernel_rfl) (iN ?_);cases h;exact⟨[4],by simp,mT,mT⟩⟩
def Yv:ie:=
 (.seq (.h_ (sq 4 [bo 4 33 0]++sq 8 [mb false])) (.seq (.h_ (sq 12 [fa 1 4,ld 12,mv 1,ix 2 13 14,fa 0 15,ld 16]++sq 9 [mv 17])) (.seq (.seq (.h_ (sq 18 [mv 2,mv 9,ln 19,bi .sub 20 1,.kA 61 [(t0 18),(i0 0),(t0 21)],nt 22,mv 23]++sg 24 false 25 [mv 9,mv 2,ix 1 25 26,ld 27,bi .lss 28 0]++sq 30 [po 24 29,mv 30]++sg 31 false 32 [mv 2,bi .eql 32 0,mv 33]++sg 34 true 35 [mv 1,mv 3,bn .eql 35 36]++sg 31 false 38 [pa 34 37]++sq 39 [po 31 38])) (.cond (t0 39) (.seq (.h_ (sq 8 [mb false])) .ret) .skip)) (.seq (.h_ (sq 41 [la 2 4,mv 1,mv 2,mv 3,cf 101 [41,42,43,44]]++sq 40 [mv 45]++sq 46 [ex 40 0,ex 40 1]++sq 10 [mv 46,mv 47])) (.seq (.h_ (sq 48 [mv 11]++sq 8 [mv 48])) .ret)))))
theorem aag:kH Tryz.prog 77 Yv 49 [.tmp 8]:=mf Tryz.func77 Tryz.ntmps77
def jL(sys:gJ)(over:Int)(at':Int)(under:Int):Option Bool:=
 if 0<=over/\over<(sys.2.length:Int)then
  (kX at' 0 (IntKind.i64.wrap ((((sys.2.getD over.toNat default).1).length:Int)-1))).bind fun r=>
  if r=true then
   if 0<=at'/\at'<(((sys.2.getD over.toNat default).1).length:Int)then
    if(decide ((((sys.2.getD over.toNat default).1).getD at'.toNat default)<0))=true then
     some false
    else
     if(at'==0)=true then
      if(over==under)=true then
       some false
      else
       (mq sys over at' under).bind fun r_1=>
       some r_1.1
     else
      (mq sys over at' under).bind fun r_2=>
      some r_2.1
   else none
  else
   some false
 else none
instance MS{sys:gJ}{over:Int}{at':Int}{under:Int}:iR (jL sys over at' under) fun rr=>jU Tryz.prog 77 [iA sys,iD over,iD at',iD under] (bD rr):=⟨@fun rr h=>by
 delta jL at h;refine aag.jC (gZ ?_);delta Yv;refine iN ?_;refine j_ h fun hp h=>?_
 refine rC h fun r hr h=>?_
 refine iT h fun hc1 h=>?_
 refine j_ h fun hp h=>?_
 refine iF h fun hc2 h=>?_
 refine it h (fun hc3 h=>?_) fun hc3 h=>?_
 ·refine iF h fun hc4 h=>?_
  refine rB [] [(15,45),(13,200000)] h fun r_1 hr_1 h=>?_
  exact mA
 refine rB [] [(15,45),(13,200000)] h fun r_2 hr_2 h=>?_
 exact mA⟩
def jv(x:gw):D:=.agg [(ia 1 iD) x.1,(ia 1 iD) x.2.1,(ia 1 iD) x.2.2.1,iD x.2.2.2.1,iD x.2.2.2.2.1,iD x.2.2.2.2.2]
instance:wC jv 6:=⟨fun _=>rfl⟩
attribute [go_sem] jv
def Tb:ie:=
 (.seq (.h_ (sq 4 [.mv (.const (.slice none 0 0))])) (.seq (.h_ (sq 8 [.mP 8 2 1 []]++sq 5 [mv 8])) (.seq (.seq (.h_ (sq 6 [mi 0])) (.block 0 (.loop (.seq (.seq (.h_ (sq 9 [mv 6,mv 1,ln 10,bn .lss 9 11])) (.cond (t0 12) .skip (.exit 0))) (.seq (.block 1 (.seq (.seq (.draw (sq 15 [mv 1,mv 6,ix 1 15 16,ld 17,bi .geq 18 0,mv 19]++sg 20 false 21 [mv 0,.me (t0 21),fa 0 22,ld 23,mv 1,mv 6,ix 1 25 26,ld 27,.bin .sub (i0 (-1)) (t0 28),ix 1 24 29,ld 30,ln 31,bi .eql 32 0]++sq 34 [po 20 33]) [[],[],[0,1],[2],[3],[4],[5],[6,5],[7,5],[8,5],[5],[5],[10,11,5],[12,5],[13,5],[9,14,5],[15,5],[16,5],[17,5],[5,18]]) (.cond (t0 34) (.h_ (sq 35 [mv 5,mv 1,mv 6,ix 1 36 37,ld 38,.mP 40 2 1 [(t0 39)],ap 41 2 1 8 35 40]++sq 5 [mv 41])) (.seq (.draw (sq 42 [mv 0,mv 0,.me (t0 43),fa 0 44,ld 45,mv 1,mv 6,ix 1 47 48,ld 49,.bin .sub (i0 (-1)) (t0 50),ix 1 46 51,ld 52,cf 104 [42,53]]++sq 7 [mv 54]) [[],[],[1],[2],[3],[],[],[5,6],[7],[8],[4,9],[10],[0,11],[12,12,0,1,2,3,4,5,6,7,8,9,10,11,12]]) (.seq (.seq (.h_ (sq 55 [mv 7,ln 55,bi .eql 56 0])) (.cond (t0 57) (.seq (.h_ (sq 58 [.mP 58 2 1 []]++sq 4 [mv 58])) .ret) .skip)) (.h_ (sq 59 [mv 5,mv 7,ap 61 2 1 8 59 60]++sq 5 [mv 61])))))) (.seq (.h_ (sq 62 [mv 5,ln 62,bi .gtr 63 60])) (.cond (t0 64) (.seq (.h_ (sq 65 [.mP 65 2 1 []]++sq 4 [mv 65])) .ret) .skip)))) (.h_ (sq 13 [mv 6,bi .add 13 1]++sq 6 [mv 14]))))))) (.seq (.h_ (sq 66 [mv 5]++sq 4 [mv 66])) .ret))))
theorem WD:kH Tryz.prog 104 Tb 67 [.tmp 4]:=mf Tryz.func104 Tryz.ntmps104
def sR(rec:gv->gx->Option gv)(t:gv)(l1:gx):gH->Option gX
 |(out,i)=>
  if(decide (i<(t.length:Int)))=true then
   if 0<=i/\i<(t.length:Int)then
    if(decide (0<=(t.getD i.toNat default)))=true then
     if(out.length+1)*8<=140737488355328 then
      if(decide (60<((out++[(t.getD i.toNat default)]).length:Int)))=true then
       Option.map Sum.inr (
        some [])
      else
       some (.inl ((out++[(t.getD i.toNat default)]),(IntKind.i64.wrap (i+1))))
     else none
    else
     if 0<=(IntKind.i64.wrap ((-1)-(t.getD i.toNat default)))/\(IntKind.i64.wrap ((-1)-(t.getD i.toNat default)))<(48:Int)/\(IntKind.i64.wrap ((-1)-(t.getD i.toNat default)))<(l1.length:Int)then
      if(((l1.getD (IntKind.i64.wrap ((-1)-(t.getD i.toNat default))).toNat default).length:Int)==0)=true then
       if(out.length+1)*8<=140737488355328 then
        if(decide (60<((out++[(t.getD i.toNat default)]).length:Int)))=true then
         Option.map Sum.inr (
          some [])
        else
         some (.inl ((out++[(t.getD i.toNat default)]),(IntKind.i64.wrap (i+1))))
       else none
      else
       (rec (l1.getD (IntKind.i64.wrap ((-1)-(t.getD i.toNat default))).toNat default) l1).bind fun r=>
       if((r.length:Int)==0)=true then
        Option.map Sum.inr (
         some [])
       else
        if(out.length+r.length)*8<=140737488355328 then
         if(decide (60<((out++r).length:Int)))=true then
          Option.map Sum.inr (
           some [])
         else
          some (.inl ((out++r),(IntKind.i64.wrap (i+1))))
        else none
     else none
   else none
  else
   Option.map Sum.inr (
    some out)
def nE:Nat->gv->gx->Option gv
 |0,_,_=>none
 |fu+1,t,l1=>
  iw (sR (nE fu) t l1) ([],0)
def nF(t:gv)(l1:gx):Option gv:=Cx fun fu=>nE fu t l1
theorem yI:∀{fu:Nat}{t:gv}{l1:gx}{rr:gv}(h:nE fu t l1=some rr),iC Tryz.prog 104 [.ptr 0 0,.d (ia 1 iD t)] [(0,.obj 198 [.pV 1 1 0 48]),(1,.obj 22 (List.map (aD (ia 1 iD)) l1))] 2 fun xx ss=>xx=.d (ia 1 iD rr)/\ss=[(0,.obj 198 [.pV 1 1 0 48]),(1,.obj 22 (List.map (aD (ia 1 iD)) l1))]
 |0,_,_,_,h=>by cases h
 |fu+1,t,l1,rr,h=>by
  have ih:∀{t:gv}{l1:gx},iR (nE fu t l1) fun rr=>iC Tryz.prog 104 [.ptr 0 0,.d (ia 1 iD t)] [(0,.obj 198 [.pV 1 1 0 48]),(1,.obj 22 (List.map (aD (ia 1 iD)) l1))] 2 fun xx ss=>xx=.d (ia 1 iD rr)/\ss=[(0,.obj 198 [.pV 1 1 0 48]),(1,.obj 22 (List.map (aD (ia 1 iD)) l1))]:=⟨fun h=>yI h⟩
  unfold nE at h;refine WD.lO (gZ ?_);delta Tb;refine iN ?_;refine kT h [4,5,6,7,9,10,11,12,13,14,15,16,17,18,19,20,21,22,23,24,25,26,27,28,29,30,31,32,33,34,35,36,37,38,39,40,41,42,43,44,45,46,47,48,49,50,51,52,53,54,55,56,57,58,59,60,61,62,63,64,65] (fun pp=>[(5,.own 1 8 (List.map iD pp.1)),(6,.d (iD pp.2))]) (fun pp=>[(0,.obj 198 [.pV 1 1 0 48]),(1,.obj 22 (List.map (aD (ia 1 iD)) l1)),(8,.tok 2 1 pp.1.length)]) ?_;rintro⟨out,i⟩ t1 h hb1;unfold sR at h;try dsimp only at h
  refine gZ (iN ?_);refine it h (fun hc1 h=>?_) fun hc1 h=>?_
  ·refine j_ h fun hp h=>?_
   refine it h (fun hc2 h=>?_) fun hc2 h=>?_
   ·refine jV (by kernel_rfl) (iN ?_);refine qa ?_;refine j_ h fun hp h=>?_
    refine it h (fun hc3 h=>?_) fun hc3 h=>?_
    ·replace h:=iZ h hb1;cases h;exact⟨[8,40,65],by simp,mT,mT⟩
    cases h;refine⟨_,rfl,?_⟩;refine(iL.drop 40 gY).trans ?_;exact wk
   refine qa ?_;refine j_ h fun hp h=>?_
   refine jV (by kernel_rfl) (iN ?_);refine it h (fun hc4 h=>?_) fun hc4 h=>?_
   ·refine qa ?_;refine j_ h fun hp h=>?_
    refine it h (fun hc5 h=>?_) fun hc5 h=>?_
    ·replace h:=iZ h hb1;cases h;exact⟨[8,40,65],by simp,mT,mT⟩
    cases h;refine⟨_,rfl,?_⟩;refine(iL.drop 40 gY).trans ?_;exact wk
   refine qa ?_;refine qa ?_;refine UL [(0,0),(1,1)] [] h fun r hr h=>?_
   refine jV (by kernel_rfl) (iN ?_);refine it h (fun hc6 h=>?_) fun hc6 h=>?_
   ·replace h:=iZ h hb1;cases h;exact⟨[8,58],by simp,mT,mT⟩
   refine j_ h fun hp h=>?_
   refine iT h fun hc7 h=>?_
   replace h:=iZ h hb1;cases h;exact⟨[8,65],by simp,mT,mT⟩
  replace h:=iZ h hb1;cases h;exact⟨[8],by simp,mT,mT⟩
instance Ik{t:gv}{l1:gx}:iR (nF t l1) fun rr=>iC Tryz.prog 104 [.ptr 0 0,.d (ia 1 iD t)] [(0,.obj 198 [.pV 1 1 0 48]),(1,.obj 22 (List.map (aD (ia 1 iD)) l1))] 2 fun xx ss=>xx=.d (ia 1 iD rr)/\ss=[(0,.obj 198 [.pV 1 1 0 48]),(1,.obj 22 (List.map (aD (ia 1 iD)) l1))]:=⟨fun h=>yI (t_ h).choose_spec⟩
def Tc:ie:=
 (.seq (.h_ (sq 2 [.mv (.const (.slice none 0 0))])) (.seq (.h_ (sq 5 [.mP 5 2 1 []]++sq 3 [mv 5])) (.seq (.seq (.h_ (sq 4 [mi 0])) (.block 0 (.loop (.seq (.seq (.h_ (sq 6 [mv 4,mv 0,ln 7,bn .lss 6 8])) (.cond (t0 9) .skip (.exit 0))) (.seq (.block 1 (.seq (.h_ (sq 12 [mv 0,mv 4,ix 1 12 13,ld 14,bi .lss 15 0,mv 16]++sg 17 true 18 [mv 3,mv 0,mv 4,ix 1 19 20,ld 21,cf 100 [18,22],nt 23]++sq 25 [pa 17 24])) (.cond (t0 25) (.h_ (sq 26 [mv 3,mv 0,mv 4,ix 1 27 28,ld 29,.mP 31 2 1 [(t0 30)],ap 32 2 1 8 26 31]++sq 3 [mv 32])) .skip))) (.h_ (sq 10 [mv 4,bi .add 10 1]++sq 4 [mv 11]))))))) (.seq (.h_ (sq 33 [mv 3]++sq 2 [mv 33])) .ret))))
theorem WE:kH Tryz.prog 105 Tc 34 [.tmp 2]:=mf Tryz.func105 Tryz.ntmps105
def qj(t:gv):gH->Option gX
 |(out,i)=>
  if(decide (i<(t.length:Int)))=true then
   if 0<=i/\i<(t.length:Int)then
    if(decide ((t.getD i.toNat default)<0))=true then
     (qS out (t.getD i.toNat default)).bind fun r=>
     if r=true then
      some (.inl (out,(IntKind.i64.wrap (i+1))))
     else
      if(out.length+1)*8<=140737488355328 then
       some (.inl ((out++[(t.getD i.toNat default)]),(IntKind.i64.wrap (i+1))))
      else none
    else
     some (.inl (out,(IntKind.i64.wrap (i+1))))
   else none
  else
   Option.map Sum.inr (
    some out)
def qz(t:gv):Option gv:=
 iw (qj t) ([],0)
instance NF{t:gv}:iR (qz t) fun rr=>jU Tryz.prog 105 [(ia 1 iD) t] ((ia 1 iD) rr):=⟨@fun rr h=>by
 delta qz at h;refine WE.jC (gZ ?_);delta Tc;refine iN ?_;refine kT h [3,4,6,7,8,9,10,11,12,13,14,15,16,17,18,19,20,21,22,23,24,25,26,27,28,29,30,31,32] (fun pp=>[(3,.own 1 5 (List.map iD pp.1)),(4,.d (iD pp.2))]) (fun pp=>[(5,.tok 2 1 pp.1.length)]) ?_;rintro⟨out,i⟩ t1 h hb1;unfold qj at h;try dsimp only at h
 refine gZ (iN ?_);refine iT h fun hc1 h=>?_
 refine j_ h fun hp h=>?_
 refine iT h fun hc2 h=>?_
 refine qa ?_;refine rC h fun r hr h=>?_
 refine iF h fun hc3 h=>?_
 refine qa ?_;refine j_ h fun hp h=>?_
 cases h;refine⟨_,rfl,?_⟩;refine(iL.drop 31 gY).trans ?_;exact wk⟩
def Td:ie:=
 (.seq (.h_ (sq 4 [.mv (.const (.slice none 0 0))])) (.seq (.h_ (sq 9 [.mP 9 2 1 []]++sq 5 [mv 9])) (.seq (.seq (.h_ (sq 6 [mi 0])) (.block 0 (.loop (.seq (.seq (.h_ (sq 10 [mv 6,mv 1,ln 11,bn .lss 10 12])) (.cond (t0 13) .skip (.exit 0))) (.seq (.block 1 (.seq (.h_ (sq 16 [mv 1,mv 6,ix 1 16 17,ld 18]++sq 7 [mv 19])) (.seq (.seq (.h_ (sq 8 [mi 0])) (.block 2 (.loop (.seq (.seq (.h_ (sq 20 [mv 8,mv 0,ln 21,bn .lss 20 22,mv 23]++sg 24 true 25 [mv 1,mv 6,ix 1 25 26,ld 27,bi .lss 28 0]++sq 30 [pa 24 29])) (.cond (t0 30) .skip (.exit 2))) (.seq (.block 3 (.seq (.draw (sq 33 [mv 0,mv 8,ix 1 33 34,ld 35,mv 1,mv 6,ix 1 37 38,ld 39,bn .eql 36 40]) [[],[],[0,1],[2],[],[],[4,5],[6],[3,7]]) (.cond (t0 41) (.h_ (sq 42 [mv 8,.bin .sub (i0 (-1)) (t0 42)]++sq 7 [mv 43])) .skip))) (.h_ (sq 31 [mv 8,bi .add 31 1]++sq 8 [mv 32]))))))) (.h_ (sq 44 [mv 5,mv 7,.mP 46 2 1 [(t0 45)],ap 47 2 1 8 44 46]++sq 5 [mv 47]))))) (.h_ (sq 14 [mv 6,bi .add 14 1]++sq 6 [mv 15]))))))) (.seq (.h_ (sq 48 [mv 5]++sq 4 [mv 48])) .ret))))
theorem WG:kH Tryz.prog 106 Td 49 [.tmp 4]:=mf Tryz.func106 Tryz.ntmps106
def oW(order:gv)(t:gv)(out:gv)(i:Int):gO->Option (gO⊕gX)
 |(n,k)=>
  if(decide (k<(order.length:Int)))=true then
   if(decide ((t.getD i.toNat default)<0))=true then
    if 0<=k/\k<(order.length:Int)then
     if((order.getD k.toNat default)==(t.getD i.toNat default))=true then
      some (.inl ((IntKind.i64.wrap ((-1)-k)),(IntKind.i64.wrap (k+1))))
     else
      some (.inl (n,(IntKind.i64.wrap (k+1))))
    else none
   else
    Option.map Sum.inr (
     if(out.length+1)*8<=140737488355328 then
      some (.inl ((out++[n]),(IntKind.i64.wrap (i+1))))
     else none)
  else
   Option.map Sum.inr (
    if(out.length+1)*8<=140737488355328 then
     some (.inl ((out++[n]),(IntKind.i64.wrap (i+1))))
    else none)
def sU(order:gv)(t:gv):gH->Option gX
 |(out,i)=>
  if(decide (i<(t.length:Int)))=true then
   if 0<=i/\i<(t.length:Int)then
    iw (oW order t out i) ((t.getD i.toNat default),0)
   else none
  else
   Option.map Sum.inr (
    some out)
def qy(order:gv)(t:gv):Option gv:=
 iw (sU order t) ([],0)
instance SW{order:gv}{t:gv}:iR (qy order t) fun rr=>jU Tryz.prog 106 [(ia 1 iD) order,(ia 1 iD) t] ((ia 1 iD) rr):=⟨@fun rr h=>by
 delta qy at h;refine WG.jC (gZ ?_);delta Td;refine iN ?_;refine kT h [5,6,7,8,10,11,12,13,14,15,16,17,18,19,20,21,22,23,24,25,26,27,28,29,30,31,32,33,34,35,36,37,38,39,40,41,42,43,44,45,46,47] (fun pp=>[(5,.own 1 9 (List.map iD pp.1)),(6,.d (iD pp.2))]) (fun pp=>[(9,.tok 2 1 pp.1.length)]) ?_;rintro⟨out,i⟩ t1 h hb1;unfold sU at h;try dsimp only at h
 refine gZ (iN ?_);refine iT h fun hc1 h=>?_
 refine j_ h fun hp h=>?_
 refine kT h [7,8,20,21,22,23,24,25,26,27,28,29,30,31,32,33,34,35,36,37,38,39,40,41,42,43] (fun pp=>[(7,.d (iD pp.1)),(8,.d (iD pp.2))]) (fun pp=>[(9,.tok 2 1 out.length)]) ?_;rintro⟨n,k⟩ t2 h hb2;unfold oW at h;try dsimp only at h
 refine gZ (iN ?_);refine it h (fun hc2 h=>?_) fun hc2 h=>?_
 ·refine qa ?_;refine iF h fun hc3 h=>?_
  replace h:=iZ h hb2;refine j_ h fun hp h=>?_
  cases h;refine⟨_,rfl,?_⟩;refine(iL.drop 46 gY).trans ?_;exact wk
 replace h:=iZ h hb2;refine j_ h fun hp h=>?_
 cases h;refine⟨_,rfl,?_⟩;refine(iL.drop 46 gY).trans ?_;exact wk⟩
def Yw:ie:=
 (.seq (.h_ (sq 4 [bo 4 33 0]++sq 8 [.alloc 8 54 [.sl 0 (some true) [],.sl 0 (some true) [],.sl 0 (some true) [],.lit (.int .i64 0),.lit (.int .i64 0),.lit (.int .i64 0)],mb false])) (.seq (.h_ (sq 20 [la 2 4,mv 1,mv 2,mv 3,cf 101 [20,21,22,23]]++sq 19 [mv 24]++sq 25 [ex 19 0,ex 19 1]++sq 10 [mv 25,mv 26])) (.seq (.h_ (sq 27 [fa 1 4,ld 27,mv 1,ix 2 28 29,la 2 30]++sq 12 [.alloc 12 81 [.sl 0 (some true) [],.sl 0 (some true) []]]++s0 (sr 2 12 31))) (.seq (.h_ (sq 32 [fa 0 4,la 1 32,fa 0 12,ld 34,mv 2,cf 102 [33,35,36]]++sq 13 [mv 37])) (.seq (.draw (sq 38 [.mP 38 2 1 [],fa 0 12,ld 39,mv 2,.slc (t0 40) 1 none (some (t0 41)) none,ap 43 2 1 8 38 42,fa 1 4,ld 44,mv 3,ix 2 45 46,fa 1 47,ld 48,.kA 103 [(t0 49),(i0 24)],ap 51 2 1 8 43 50]++sq 14 [mv 51]) [[],[],[1],[],[2,3],[0,4],[],[6],[],[7,8],[9],[10],[11,5],[5,12,12],[13,13,0,1,2,3,4,5,6,7,8,9,10,11,12,13]]) (.seq (.h_ (sq 52 [mv 10,fa 0 12,ld 53,cf 104 [52,54]]++sq 15 [mv 55])) (.seq (.h_ (sq 56 [mv 10,mv 14,fa 0 12,ld 58,mv 13,.slc (t0 59) 1 (some (t0 60)) none none,ap 62 2 1 8 57 61,cf 104 [56,62]]++sq 16 [mv 63])) (.seq (.h_ (sq 64 [mv 10,fa 1 12,ld 65,cf 104 [64,66]]++sq 17 [mv 67])) (.seq (.h_ (sq 68 [mv 15,cf 105 [68]]++sq 18 [mv 69])) (.seq (.seq (.h_ (sq 70 [mv 15,ln 70,bi .eql 71 0,mv 72]++sg 73 false 74 [mv 16,ln 74,bi .eql 75 0]++sq 77 [po 73 76,mv 77]++sg 78 false 79 [mv 17,ln 79,bi .eql 80 0]++sq 82 [po 78 81,mv 82]++sg 83 false 84 [mv 18,ln 84,bi .gtr 85 24]++sq 87 [po 83 86])) (.cond (t0 87) (.seq (.h_ (sq 88 [.build [.sl 0 (some true) [],.sl 0 (some true) [],.sl 0 (some true) [],.lit (.int .i64 0),.lit (.int .i64 0),.lit (.int .i64 0)] []]++s0 (sr 6 8 88)++sq 9 [mb false])) .ret) .skip)) (.seq (.h_ (sq 89 [mv 18,mv 15,cf 106 [89,90],mv 18,mv 16,cf 106 [92,93],mv 18,mv 17,cf 106 [95,96],mv 2,mv 3,mv 1,.build [.sl 0 (some true) [],.sl 0 (some true) [],.sl 0 (some true) [],.lit (.int .i64 0),.lit (.int .i64 0),.lit (.int .i64 0)] [(0,1,(t0 91)),(1,1,(t0 94)),(2,1,(t0 97)),(3,1,(t0 98)),(4,1,(t0 99)),(5,1,(t0 100))]]++s0 (sr 6 8 101)++sq 9 [mb true])) .ret)))))))))))
theorem aah:kH Tryz.prog 78 Yw 102 [.cell 8 6 true,.tmp 9]:=mf Tryz.func78 Tryz.ntmps78
def nG(sys:gJ)(over:Int)(at':Int)(under:Int):Option (gw×Bool):=
 (mq sys over at' under).bind fun r=>
 if 0<=over/\over<(sys.2.length:Int)then
  (pY sys.1 ((sys.2.getD over.toNat default).1) at').bind fun r_1=>
  if 0<=at'/\at'<=(((sys.2.getD over.toNat default).1).length:Int)then
   if(0+(((sys.2.getD over.toNat default).1).take at'.toNat).length)*8<=140737488355328 then
    if 0<=under/\under<(sys.2.length:Int)then
     (oT ((sys.2.getD under.toNat default).2) 24).bind fun r_2=>
     if((((sys.2.getD over.toNat default).1).take at'.toNat).length+r_2.length)*8<=140737488355328 then
      (nF ((sys.2.getD over.toNat default).1) r.2).bind fun r_3=>
      if 0<=r_1/\r_1<=(((sys.2.getD over.toNat default).1).length:Int)then
       if(((((sys.2.getD over.toNat default).1).take at'.toNat)++r_2).length+(((sys.2.getD over.toNat default).1).drop r_1.toNat).length)*8<=140737488355328 then
        (nF (((((sys.2.getD over.toNat default).1).take at'.toNat)++r_2)++(((sys.2.getD over.toNat default).1).drop r_1.toNat)) r.2).bind fun r_4=>
        (nF ((sys.2.getD over.toNat default).2) r.2).bind fun r_5=>
        (qz r_3).bind fun r_6=>
        if((r_3.length:Int)==0)=true then
         some (([],[],[],0,0,0),false)
        else
         if((r_4.length:Int)==0)=true then
          some (([],[],[],0,0,0),false)
         else
          if((r_5.length:Int)==0)=true then
           some (([],[],[],0,0,0),false)
          else
           if(decide (24<(r_6.length:Int)))=true then
            some (([],[],[],0,0,0),false)
           else
            (qy r_6 r_3).bind fun r_7=>
            (qy r_6 r_4).bind fun r_8=>
            (qy r_6 r_5).bind fun r_9=>
            some ((r_7,r_8,r_9,at',under,over),true)
       else none
      else none
     else none
    else none
   else none
  else none
 else none
instance Nz{sys:gJ}{over:Int}{at':Int}{under:Int}:iR (nG sys over at' under) fun rr=>oH Tryz.prog 78 [iA sys,iD over,iD at',iD under] [jv rr.1,bD rr.2]:=⟨@fun rr h=>by
 delta nG at h;refine aah.pg (gZ ?_);delta Yw;refine iN ?_;refine rB [] [(15,24),(13,200000)] h fun r hr h=>?_
 refine j_ h fun hp h=>?_
 refine rC h fun r_1 hr_1 h=>?_
 refine j_ h fun hp h=>?_
 refine j_ h fun hp h=>?_
 refine j_ h fun hp h=>?_
 refine dC h fun r_2 hr_2 h=>?_
 refine j_ h fun hp h=>?_
 refine jV (by kernel_rfl) (iN ?_);refine rB [(0,24),(1,200000)] [] h fun r_3 hr_3 h=>?_
 refine j_ h fun hp h=>?_
 refine j_ h fun hp h=>?_
 refine rB [(0,24),(1,200000)] [] h fun r_4 hr_4 h=>?_
 refine rB [(0,24),(1,200000)] [] h fun r_5 hr_5 h=>?_
 exact mA⟩
def Ye:ie:=
 (.seq (.h_ (sq 1 [bo 1 33 0,.mv (.const (.slice none 0 0)),mb false])) (.seq (.h_ (sq 11 [.mP 11 54 6 []]++sq 4 [mv 11])) (.seq (.h_ (sq 12 [fa 1 1,ld 12,ln 13]++sq 5 [mv 14])) (.seq (.seq (.h_ (sq 6 [mi 0])) (.block 0 (.loop (.seq (.seq (.h_ (sq 15 [mv 6,mv 5,bn .lss 15 16])) (.cond (t0 17) .skip (.exit 0))) (.seq (.block 1 (.seq (.h_ (sq 7 [mi 0])) (.block 2 (.loop (.seq (.seq (.h_ (sq 20 [mv 7,fa 1 1,ld 21,mv 6,ix 2 22 23,fa 0 24,ld 25,ln 26,bn .lss 20 27])) (.cond (t0 28) .skip (.exit 2))) (.seq (.block 3 (.seq (.h_ (sq 8 [mi 0])) (.block 4 (.loop (.seq (.seq (.h_ (sq 31 [mv 8,mv 5,bn .lss 31 32])) (.cond (t0 33) .skip (.exit 4))) (.seq (.block 5 (.seq (.seq (.h_ (sq 36 [la 2 1,mv 6,mv 7,mv 8,cf 77 [36,37,38,39],nt 40])) (.cond (t0 41) (.exit 5) .skip)) (.seq (.h_ (sq 43 [la 2 1,mv 6,mv 7,mv 8,cf 78 [43,44,45,46]]++sq 42 [mv 47]++sq 48 [ex 42 0,ex 42 1]++sq 9 [.alloc 9 54 [.sl 0 (some true) [],.sl 0 (some true) [],.sl 0 (some true) [],.lit (.int .i64 0),.lit (.int .i64 0),.lit (.int .i64 0)]]++s0 (sr 6 9 48)++sq 10 [mv 49])) (.seq (.seq (.h_ (sq 50 [mv 10,nt 50,mv 51]++sg 52 false 53 [mv 4,ln 53,bi .eql 54 64]++sq 56 [po 52 55])) (.cond (t0 56) (.seq (.h_ (sq 57 [.mP 57 54 6 []]++sq 2 [mv 57,mb false])) .ret) .skip)) (.h_ (sq 58 [mv 4,la 6 9,.mP 60 54 6 [(t0 59)],ap 61 54 6 96 58 60]++sq 4 [mv 61])))))) (.h_ (sq 34 [mv 8,bi .add 34 1]++sq 8 [mv 35])))))))) (.h_ (sq 29 [mv 7,bi .add 29 1]++sq 7 [mv 30])))))))) (.h_ (sq 18 [mv 6,bi .add 18 1]++sq 6 [mv 19]))))))) (.seq (.h_ (sq 62 [mv 4]++sq 2 [mv 62,mb true])) .ret)))))
theorem ZZ:kH Tryz.prog 45 Ye 63 [.tmp 2,.tmp 3]:=mf Tryz.func45 Tryz.ntmps45
def kJ(sys:gJ)(over:Int)(at':Int):gV->Option (gV⊕(gV⊕(gV⊕(gL×Bool))))
 |(out_2,under)=>
  if(decide (under<(sys.2.length:Int)))=true then
   (jL sys over at' under).bind fun r=>
   if r=true then
    (nG sys over at' under).bind fun r_1=>
    if r_1.2=true then
     if((out_2.length:Int)==64)=true then
      Option.map Sum.inr (
       Option.map Sum.inr (
        Option.map Sum.inr (
         some ([],false))))
     else
      if(out_2.length+1)*96<=140737488355328 then
       some (.inl ((out_2++[r_1.1]),(IntKind.i64.wrap (under+1))))
      else none
    else
     Option.map Sum.inr (
      Option.map Sum.inr (
       Option.map Sum.inr (
        some ([],false))))
   else
    some (.inl (out_2,(IntKind.i64.wrap (under+1))))
  else
   Option.map Sum.inr (
    some (.inl (out_2,(IntKind.i64.wrap (at'+1)))))
def lY(sys:gJ)(over:Int):gV->Option (gV⊕(gV⊕(gL×Bool)))
 |(out_1,at')=>
  if 0<=over/\over<(sys.2.length:Int)then
   if(decide (at'<(((sys.2.getD over.toNat default).1).length:Int)))=true then
    iw (kJ sys over at') (out_1,0)
   else
    Option.map Sum.inr (
     some (.inl (out_1,(IntKind.i64.wrap (over+1)))))
  else none
def nh(sys:gJ):gV->Option (gV⊕(gL×Bool))
 |(out,over)=>
  if(decide (over<(sys.2.length:Int)))=true then
   iw (lY sys over) (out,0)
  else
   Option.map Sum.inr (
    some (out,true))
def ug(sys:gJ):Option (gL×Bool):=
 iw (nh sys) ([],0)
instance P9{sys:gJ}:iR (ug sys) fun rr=>oH Tryz.prog 45 [iA sys] [(ia 6 jv) rr.1,bD rr.2]:=⟨@fun rr h=>by
 delta ug at h;refine ZZ.pg (gZ ?_);delta Ye;refine iN ?_;refine kT h [2,3,4,6,7,8,9,10,15,16,17,18,19,20,21,22,23,24,25,26,27,28,29,30,31,32,33,34,35,36,37,38,39,40,41,42,43,44,45,46,47,48,49,50,51,52,53,54,55,56,57,58,59,60,61] (fun pp=>[(4,.own 6 11 (List.map jv pp.1)),(6,.d (iD pp.2))]) (fun pp=>[(1,.obj 33 [.d (ia 1 iD sys.1),.d (ia 2 g_ sys.2)]),(11,.tok 54 6 pp.1.length)]) ?_;rintro⟨out,over⟩ t1 h hb1;unfold nh at h;try dsimp only at h
 refine gZ (iN ?_);refine iT h fun hc1 h=>?_
 refine kT h [2,3,4,7,8,9,10,20,21,22,23,24,25,26,27,28,29,30,31,32,33,34,35,36,37,38,39,40,41,42,43,44,45,46,47,48,49,50,51,52,53,54,55,56,57,58,59,60,61] (fun pp=>[(4,.own 6 11 (List.map jv pp.1)),(7,.d (iD pp.2))]) (fun pp=>[(1,.obj 33 [.d (ia 1 iD sys.1),.d (ia 2 g_ sys.2)]),(11,.tok 54 6 pp.1.length)]) ?_;rintro⟨out_1,at'⟩ t2 h hb2;unfold lY at h;try dsimp only at h
 refine gZ (iN ?_);refine j_ h fun hp h=>?_
 refine iT h fun hc2 h=>?_
 refine kT h [2,3,4,8,9,10,31,32,33,34,35,36,37,38,39,40,41,42,43,44,45,46,47,48,49,50,51,52,53,54,55,56,57,58,59,60,61] (fun pp=>[(4,.own 6 11 (List.map jv pp.1)),(8,.d (iD pp.2))]) (fun pp=>[(1,.obj 33 [.d (ia 1 iD sys.1),.d (ia 2 g_ sys.2)]),(11,.tok 54 6 pp.1.length)]) ?_;rintro⟨out_2,under⟩ t3 h hb3;unfold kJ at h;try dsimp only at h
 refine gZ (iN ?_);refine iT h fun hc3 h=>?_
 refine rC h fun r hr h=>?_
 refine iT h fun hc4 h=>?_
 refine R8 h fun r_1 hr_1 h=>?_
 refine iT h fun hc5 h=>?_
 refine iF h fun hc6 h=>?_
 refine j_ h fun hp h=>?_
 cases h;refine⟨_,rfl,?_⟩;refine(iL.drop 9 gY).trans ?_;refine(iL.drop 60 gY).trans ?_;exact wk⟩
end Go.Proofs.YtjgbnaihpicpgaaGreatDoor
