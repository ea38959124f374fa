/- A part of the proof about FnExactJoinsAll (H1, H2). -/
import Derived.Test.YtjgbnaihpicpgaaGreatDoorTd
set_option linter.all false
noncomputable section
namespace Go.Proofs.YtjgbnaihpicpgaaGreatDoor
open Go lY
attribute [local irreducible] rA vi uM lW lP ng jX Ak Bj yP Bi yF tw lK nO A7 iG kj
set_option maxHeartbeats 4000000
set_option maxRecDepth 4000
def RS:gV:=
 (.seq (.gQ (sq 3 [bo 3 30 0]++sq 6 [mi 0])) (.seq (.gQ (sq 7 [mi 1])) (.seq (.block 0 (.loop (.seq (.seq (.gQ (sq 8 [mv 7,bi .gtr 8 0])) (.cond (t0 9) .skip (.exit 0))) (.block 1 (.seq (.seq (.gQ (sq 10 [mv 1,mv 2,ix 1 10 11,ld 12,bi .geq 13 0])) (.cond (t0 14) (.draw (sq 15 [mv 7,fa 0 3,ld 16,mv 1,mv 2,ix 1 18 19,ld 20,ix 1 17 21,ld 22,bn .add 15 23]++sq 7 [mv 24]) [[],[],[1],[],[],[3,4],[5],[2,6],[7],[0,8],[9,0,1,2,3,4,5,6,7,8,9]]) .skip)) (.seq (.gQ (sq 25 [mv 7,bi .sub 25 1]++sq 7 [mv 26])) (.gQ (sq 27 [mv 2,bi .add 27 1]++sq 2 [mv 28])))))))) (.seq (.gQ (sq 29 [mv 2]++sq 6 [mv 29])) .ret))))
theorem Vt:jV Tryz.prog 102 RS 30 [.tmp 6]:=mf Tryz.func102 Tryz.ntmps102
def ot(sig:gk)(t:gk):gG->Option (gG⊕Int)
 |(at'_1,need)=>
  if(decide (0<need))=true then
   if 0<=at'_1/\at'_1<(t.length:Int)then
    if(decide (0<=(t.getD at'_1.toNat default)))=true then
     if 0<=(t.getD at'_1.toNat default)/\(t.getD at'_1.toNat default)<(sig.length:Int)then
      some (.inl ((IntKind.i64.wrap (at'_1+1)),(IntKind.i64.wrap ((IntKind.i64.wrap (need+(sig.getD (t.getD at'_1.toNat default).toNat default)))-1))))
     else none
    else
     some (.inl ((IntKind.i64.wrap (at'_1+1)),(IntKind.i64.wrap (need-1))))
   else none
  else
   Option.map Sum.inr (
    some at'_1)
def o_(sig:gk)(t:gk)(at':Int):Option Int:=
 g_ (ot sig t) (at',1)
instance OQ{sig:gk}{t:gk}{at':Int}:iH (o_ sig t at') fun rr=>jF Tryz.prog 102 [iU sig,(gS 1 iD) t,iD at'] (iD rr):=⟨@fun rr h=>by
 delta o_ at h;refine Vt.jf (gO ?_);delta RS;refine iE ?_;refine kT h [2,7,8,9,10,11,12,13,14,15,16,17,18,19,20,21,22,23,24,25,26,27,28] (fun pp=>[(2,.d (iD pp.1)),(7,.d (iD pp.2))]) (fun pp=>[(3,.obj 30 [.d (gS 1 iD sig)])]) ?_;rintro⟨at'_1,need⟩ t1 h hb1;unfold ot at h;try dsimp only at h
 refine gO (iE ?_);exact nr⟩
def RU:gV:=
 (.seq (.gQ (sq 4 [.mv (.const (.slice none 0 0))])) (.seq (.gQ (sq 7 [.pF 7 2 1 []]++sq 5 [mv 7])) (.seq (.seq (.gQ (sq 6 [mi 0])) (.block 0 (.loop (.seq (.seq (.gQ (sq 8 [mv 6,mv 0,ln 9,bn .lss 8 10])) (.cond (t0 11) .skip (.exit 0))) (.seq (.block 1 (.seq (.gQ (sq 14 [mv 0,mv 6,ix 1 14 15,ld 16,bi .lss 17 0])) (.cond (t0 18) (.gQ (sq 19 [mv 5,mv 0,mv 6,ix 1 20 21,ld 22,mv 1,bn .sub 23 24,.pF 26 2 1 [(t0 25)],ap 27 2 1 8 19 26]++sq 5 [mv 27])) (.gQ (sq 28 [mv 5,mv 0,mv 6,ix 1 29 30,ld 31,.pF 33 2 1 [(t0 32)],ap 34 2 1 8 28 33]++sq 5 [mv 34]))))) (.gQ (sq 12 [mv 6,bi .add 12 1]++sq 6 [mv 13]))))))) (.seq (.gQ (sq 35 [mv 5]++sq 4 [mv 35])) .ret))))
theorem Vu:jV Tryz.prog 103 RU 36 [.tmp 4]:=mf Tryz.func103 Tryz.ntmps103
def pK(t:gk)(k:Int):gH->Option (gH⊕gk)
 |(out,i)=>
  if(decide (i<(t.length:Int)))=true then
   if 0<=i/\i<(t.length:Int)then
    if(decide ((t.getD i.toNat default)<0))=true then
     if(out.length+1)*8<=140737488355328 then
      some (.inl ((out++[(IntKind.i64.wrap ((t.getD i.toNat default)-k))]),(IntKind.i64.wrap (i+1))))
     else none
    else
     if(out.length+1)*8<=140737488355328 then
      some (.inl ((out++[(t.getD i.toNat default)]),(IntKind.i64.wrap (i+1))))
     else none
   else none
  else
   Option.map Sum.inr (
    some out)
def oo(t:gk)(k:Int):Option gk:=
 g_ (pK t k) ([],0)
instance Mi{t:gk}{k:Int}:iH (oo t k) fun rr=>jF Tryz.prog 103 [(gS 1 iD) t,iD k] ((gS 1 iD) rr):=⟨@fun rr h=>by
 delta oo at h;refine Vu.jf (gO ?_);delta RU;refine iE ?_;refine kT h [5,6,8,9,10,11,12,13,14,15,16,17,18,19,20,21,22,23,24,25,26,27,28,29,30,31,32,33,34] (fun pp=>[(5,.own 1 7 (List.map iD pp.1)),(6,.d (iD pp.2))]) (fun pp=>[(7,.tok 2 1 pp.1.length)]) ?_;rintro⟨out,i⟩ t1 h hb1;unfold pK at h;try dsimp only at h
 refine gO (iE ?_);refine iT h fun hc1 h=>?_
 refine jG h fun hp h=>?_
 refine it h (fun hc2 h=>?_) fun hc2 h=>?_
 ·refine pz ?_;refine jG h fun hp h=>?_
  cases h;refine⟨_,rfl,?_⟩;refine(ij.drop 26 gN).trans ?_;exact wk
 refine pz ?_;refine jG h fun hp h=>?_
 cases h;refine⟨_,rfl,?_⟩;refine(ij.drop 33 gN).trans ?_;exact wk⟩
def Sv:gV:=
 (.seq (.gQ (sq 4 [.mv (.const (.slice none 0 0))])) (.seq (.block 0 (.loop (.seq (.seq (.draw (sq 5 [mv 1,.tg 1 (t0 5) (i0 0),ld 6,bi .lss 7 0,mv 8]++sg 9 true 10 [mv 0,.nV (t0 10),fa 0 11,ld 12,mv 1,.tg 1 (t0 14) (i0 0),ld 15,.bin .sub (i0 (-1)) (t0 16),ix 1 13 17,ld 18,ln 19,bi .gtr 20 0]++sq 22 [pa 9 21]) [[],[0],[1],[2],[3],[4],[5,4],[6,4],[7,4],[4],[9,4],[10,4],[11,4],[8,12,4],[13,4],[14,4],[15,4],[4,16]]) (.cond (t0 22) .skip (.exit 0))) (.block 1 (.draw (sq 23 [mv 0,.nV (t0 23),fa 0 24,ld 25,mv 1,.tg 1 (t0 27) (i0 0),ld 28,.bin .sub (i0 (-1)) (t0 29),ix 1 26 30,ld 31]++sq 1 [mv 32]) [[],[0],[1],[2],[],[4],[5],[6],[3,7],[8],[9,0,1,2,3,4,5,6,7,8,9]]))))) (.seq (.gQ (sq 33 [mv 1]++sq 4 [mv 33])) .ret)))
theorem V1:jV Tryz.prog 148 Sv 34 [.tmp 4]:=mf Tryz.func148 Tryz.ntmps148
def nK(l1:gp):gk->Option (gk⊕gk)
 |t_1=>
  if 0<=0/\0<(t_1.length:Int)then
   if(decide ((t_1.getD 0 default)<0))=true then
    if 0<=(IntKind.i64.wrap ((-1)-(t_1.getD 0 default)))/\(IntKind.i64.wrap ((-1)-(t_1.getD 0 default)))<(48:Int)/\(IntKind.i64.wrap ((-1)-(t_1.getD 0 default)))<(l1.length:Int)then
     if(decide (0<((l1.getD (IntKind.i64.wrap ((-1)-(t_1.getD 0 default))).toNat default).length:Int)))=true then
      some (.inl (l1.getD (IntKind.i64.wrap ((-1)-(t_1.getD 0 default))).toNat default))
     else
      Option.map Sum.inr (
       some t_1)
    else none
   else
    Option.map Sum.inr (
     some t_1)
  else none
def oq(t:gk)(l1:gp):Option gk:=
 g_ (nK l1) t
instance Mj{t:gk}{l1:gp}:iH (oq t l1) fun rr=>h_ Tryz.prog 148 [.ptr 0 0,.d (gS 1 iD t)] [(0,.obj 198 [.oX 1 1 0 48]),(1,.obj 22 (List.map (aD (gS 1 iD)) l1))] 2 fun xx ss=>xx=.d (gS 1 iD rr)/\ss=[(0,.obj 198 [.oX 1 1 0 48]),(1,.obj 22 (List.map (aD (gS 1 iD)) l1))]:=⟨@fun rr h=>by
 delta oq at h;refine V1.mm (gO ?_);delta Sv;refine iE ?_;refine kT h [1,5,6,7,8,9,10,11,12,13,14,15,16,17,18,19,20,21,22,23,24,25,26,27,28,29,30,31,32] (fun pp=>[(1,.d (gS 1 iD pp))]) (fun pp=>[(0,.obj 198 [.oX 1 1 0 48]),(1,.obj 22 (List.map (aD (gS 1 iD)) l1))]) ?_;rintro t_1 t1 h hb1;unfold nK at h;try dsimp only at h
 refine gO (iE ?_);exact nr⟩
def tj:gV:=
 (.seq (.gQ (sq 6 [mb false])) (.seq (.gQ (sq 11 [mv 0,.nV (t0 11),fa 0 12,ld 13,ln 14,.yC 16 4 1 1 [.lit (.bool false)] false (t0 15) (t0 15)]++sq 7 [mv 16])) (.seq (.gQ (sq 17 [mv 2,.zC 18 22 1 [(t0 17)]]++sq 8 [mv 18])) (.seq (.block 0 (.loop (.seq (.seq (.gQ (sq 19 [mv 8,ln 19,bi .gtr 20 0])) (.cond (t0 21) .skip (.exit 0))) (.block 1 (.seq (.gQ (sq 22 [mv 8,mv 8,ln 23,bi .sub 24 1,ix 1 22 25,ld 26]++sq 9 [mv 27])) (.seq (.gQ (sq 28 [mv 8,mv 8,ln 29,bi .sub 30 1,.CT (t0 28) 1 (t0 31)]++sq 8 [mv 32])) (.seq (.gQ (sq 10 [mi 0])) (.block 2 (.loop (.seq (.seq (.gQ (sq 33 [mv 10,mv 9,ln 34,bn .lss 33 35])) (.cond (t0 36) .skip (.exit 2))) (.seq (.block 3 (.seq (.seq (.gQ (sq 39 [mv 9,mv 10,ix 1 39 40,ld 41,mv 1,bn .eql 42 43])) (.cond (t0 44) (.seq (.gQ (sq 6 [mb true])) .ret) .skip)) (.seq (.draw (sq 45 [mv 9,mv 10,ix 1 45 46,ld 47,bi .lss 48 0,mv 49]++sg 50 true 51 [mv 7,mv 9,mv 10,ix 1 52 53,ld 54,.bin .sub (i0 (-1)) (t0 55),ix 1 51 56,ld 57,nt 58]++sq 60 [pa 50 59,mv 60]++sg 61 true 62 [mv 0,.nV (t0 62),fa 0 63,ld 64,mv 9,mv 10,ix 1 66 67,ld 68,.bin .sub (i0 (-1)) (t0 69),ix 1 65 70,ld 71,ln 72,bi .gtr 73 0]++sq 75 [pa 61 74]) [[],[],[0,1],[2],[3],[4],[5],[5],[5],[7,8,5],[9,5],[10,5],[6,11,5],[12,5],[13,5],[5,14],[15,5],[16],[17,16],[18,16],[19,16],[16],[16],[21,22,16],[23,16],[24,16],[20,25,16],[26,16],[27,16],[28,16],[16,29]]) (.cond (t0 75) (.seq (.gQ (sq 76 [mv 7,mv 9,mv 10,ix 1 77 78,ld 79,.bin .sub (i0 (-1)) (t0 80),ix 1 76 81]++s0 (.store 1 (t0 82) (.const (.bool true))))) (.draw (sq 83 [mv 8,mv 0,.nV (t0 84),fa 0 85,ld 86,mv 9,mv 10,ix 1 88 89,ld 90,.bin .sub (i0 (-1)) (t0 91),ix 1 87 92,ld 93,.pF 95 22 1 [(t0 94)],ap 96 22 1 24 83 95]++sq 8 [mv 96]) [[],[],[1],[2],[3],[],[],[5,6],[7],[8],[4,9],[10],[11],[0,12],[13,13,0,1,2,3,4,5,6,7,8,9,10,11,12,13]])) .skip)))) (.gQ (sq 37 [mv 10,bi .add 37 1]++sq 10 [mv 38]))))))))))))) (.seq (.gQ (sq 6 [mb false])) .ret)))))
theorem xA:jV Tryz.prog 149 tj 97 [.tmp 6]:=mf Tryz.func149 Tryz.ntmps149
def kK(x:Int)(l1:gp)(g18:gp):(Int×gF×gp)->Option ((Int×gF×gp)⊕((gF×gp)⊕Bool))
 |(i,l16_1,g18_1)=>
  if(decide (i<((g18.getD (IntKind.i64.wrap ((g18.length:Int)-1)).toNat default).length:Int)))=true then
   if 0<=i/\i<((g18.getD (IntKind.i64.wrap ((g18.length:Int)-1)).toNat default).length:Int)then
    if(((g18.getD (IntKind.i64.wrap ((g18.length:Int)-1)).toNat default).getD i.toNat default)==x)=true then
     Option.map Sum.inr (
      Option.map Sum.inr (
       some true))
    else
     if(decide (((g18.getD (IntKind.i64.wrap ((g18.length:Int)-1)).toNat default).getD i.toNat default)<0))=true then
      if 0<=(IntKind.i64.wrap ((-1)-((g18.getD (IntKind.i64.wrap ((g18.length:Int)-1)).toNat default).getD i.toNat default)))/\(IntKind.i64.wrap ((-1)-((g18.getD (IntKind.i64.wrap ((g18.length:Int)-1)).toNat default).getD i.toNat default)))<(48:Int)/\(IntKind.i64.wrap ((-1)-((g18.getD (IntKind.i64.wrap ((g18.length:Int)-1)).toNat default).getD i.toNat default)))<(l16_1.length:Int)then
       if(l16_1.getD (IntKind.i64.wrap ((-1)-((g18.getD (IntKind.i64.wrap ((g18.length:Int)-1)).toNat default).getD i.toNat default))).toNat default)=true then
        some (.inl ((IntKind.i64.wrap (i+1)),l16_1,g18_1))
       else
        if 0<=(IntKind.i64.wrap ((-1)-((g18.getD (IntKind.i64.wrap ((g18.length:Int)-1)).toNat default).getD i.toNat default)))/\(IntKind.i64.wrap ((-1)-((g18.getD (IntKind.i64.wrap ((g18.length:Int)-1)).toNat default).getD i.toNat default)))<(48:Int)/\(IntKind.i64.wrap ((-1)-((g18.getD (IntKind.i64.wrap ((g18.length:Int)-1)).toNat default).getD i.toNat default)))<(l1.length:Int)then
         if(decide (0<((l1.getD (IntKind.i64.wrap ((-1)-((g18.getD (IntKind.i64.wrap ((g18.length:Int)-1)).toNat default).getD i.toNat default))).toNat default).length:Int)))=true then
          if(g18_1.length+1)*24<=140737488355328 then
           some (.inl ((IntKind.i64.wrap (i+1)),(l16_1.set (IntKind.i64.wrap ((-1)-((g18.getD (IntKind.i64.wrap ((g18.length:Int)-1)).toNat default).getD i.toNat default))).toNat true),(g18_1++[(l1.getD (IntKind.i64.wrap ((-1)-((g18.getD (IntKind.i64.wrap ((g18.length:Int)-1)).toNat default).getD i.toNat default))).toNat default)])))
          else none
         else
          some (.inl ((IntKind.i64.wrap (i+1)),l16_1,g18_1))
        else none
      else none
     else
      some (.inl ((IntKind.i64.wrap (i+1)),l16_1,g18_1))
   else none
  else
   Option.map Sum.inr (
    some (.inl (l16_1,g18_1)))
def lZ(x:Int)(l1:gp):(gF×gp)->Option ((gF×gp)⊕Bool)
 |(l16,g18)=>
  if(decide (0<(g18.length:Int)))=true then
   if 0<=(IntKind.i64.wrap ((g18.length:Int)-1))/\(IntKind.i64.wrap ((g18.length:Int)-1))<(g18.length:Int)then
    if 0<=(IntKind.i64.wrap ((g18.length:Int)-1))/\(IntKind.i64.wrap ((g18.length:Int)-1))<=(g18.length:Int)then
     g_ (kK x l1 g18) (0,l16,(g18.take (IntKind.i64.wrap ((g18.length:Int)-1)).toNat))
    else none
   else none
  else
   Option.map Sum.inr (
    some false)
def kZ(x:Int)(t:gk)(l1:gp):Option Bool:=
 g_ (lZ x l1) ((List.replicate 48 false),[t])
instance Kb{x:Int}{t:gk}{l1:gp}:iH (kZ x t l1) fun rr=>h_ Tryz.prog 149 [.ptr 0 0,.d (iD x),.d (gS 1 iD t)] [(0,.obj 198 [.oX 1 1 0 48]),(1,.obj 22 (List.map (aD (gS 1 iD)) l1))] 2 fun xx ss=>xx=.d (bD rr)/\ss=[(0,.obj 198 [.oX 1 1 0 48]),(1,.obj 22 (List.map (aD (gS 1 iD)) l1))]:=⟨@fun rr h=>by
 delta kZ at h;refine xA.mm (gO ?_);delta tj;refine iE ?_;refine pz ?_;refine kT h [6,8,9,10,18,19,20,21,22,23,24,25,26,27,28,29,30,31,32,33,34,35,36,37,38,39,40,41,42,43,44,45,46,47,48,49,50,51,52,53,54,55,56,57,58,59,60,61,62,63,64,65,66,67,68,69,70,71,72,73,74,75,76,77,78,79,80,81,82,83,84,85,86,87,88,89,90,91,92,93,94,95,96] (fun pp=>[(8,.kL 1 18 pp.2.length)]) (fun pp=>[(0,.obj 198 [.oX 1 1 0 48]),(1,.obj 22 (List.map (aD (gS 1 iD)) l1)),(16,.obj 4 (List.map (aD bD) pp.1)),(18,.kO 22 1 pp.2.length (lq (gS 1 iD) pp.2))]) ?_;rintro⟨l16,g18⟩ t1 h hb1;unfold lZ at h;try dsimp only at h
 refine gO (iE ?_);refine it h (fun hc1 h=>?_) fun hc1 h=>?_
 ·refine jG h fun hp h=>?_
  refine pz ?_;refine jG h fun hp h=>?_
  refine kT h [6,8,10,33,34,35,36,37,38,39,40,41,42,43,44,45,46,47,48,49,50,51,52,53,54,55,56,57,58,59,60,61,62,63,64,65,66,67,68,69,70,71,72,73,74,75,76,77,78,79,80,81,82,83,84,85,86,87,88,89,90,91,92,93,94,95,96] (fun pp=>[(8,.kL 1 18 pp.2.2.length),(10,.d (iD pp.1))]) (fun pp=>[(0,.obj 198 [.oX 1 1 0 48]),(1,.obj 22 (List.map (aD (gS 1 iD)) l1)),(16,.obj 4 (List.map (aD bD) pp.2.1)),(18,.kO 22 1 pp.2.2.length (lq (gS 1 iD) pp.2.2))]) ?_;rintro⟨i,l16_1,g18_1⟩ t2 h hb2;unfold kK at h;try dsimp only at h
  refine gO (iE ?_);refine iT h fun hc2 h=>?_
  refine jG h fun hp h=>?_
  refine it h (fun hc3 h=>?_) fun hc3 h=>?_
  ·replace h:=jg h hb2;replace h:=jg h hb1;cases h;exact⟨[16,18],by simp,oG,oG⟩
  refine pz ?_;refine iT h fun hc4 h=>?_
  refine pz ?_;refine jG h fun hp h=>?_
  refine iF h fun hc5 h=>?_
  refine pz ?_;refine jG h fun hp h=>?_
  refine jy (by kernel_rfl) (iE ?_);refine iT h fun hc6 h=>?_
  refine pz ?_;refine pz ?_;refine pz ?_;refine pz ?_;refine jG h fun hp h=>?_
  refine jy (by kernel_rfl) (iE ?_);cases h;refine⟨_,rfl,?_⟩;refine(ij.drop 95 gN).trans ?_;exact wk
 replace h:=jg h hb1;cases h;exact⟨[16,18],by simp,oG,oG⟩⟩
def Sw:gV:=
 (.seq (.gQ (sq 2 [bo 2 30 0]++sq 4 [.mv (.const (.slice none 0 0))])) (.seq (.gQ (sq 9 [.pF 9 22 1 []]++sq 5 [mv 9])) (.seq (.seq (.gQ (sq 10 [mv 1,.tg 1 (t0 10) (i0 0),ld 11,bi .lss 12 0])) (.cond (t0 13) (.seq (.gQ (sq 14 [mv 5]++sq 4 [mv 14])) .ret) .skip)) (.seq (.gQ (sq 6 [mi 1])) (.seq (.seq (.gQ (sq 7 [mi 0])) (.block 0 (.loop (.seq (.seq (.draw (sq 15 [mv 7,fa 0 2,ld 16,mv 1,.tg 1 (t0 18) (i0 0),ld 19,ix 1 17 20,ld 21,bn .lss 15 22]) [[],[],[1],[],[3],[4],[2,5],[6],[0,7]]) (.cond (t0 23) .skip (.exit 0))) (.seq (.block 1 (.seq (.gQ (sq 26 [la 1 2,mv 1,mv 6,cf 102 [26,27,28]]++sq 8 [mv 29])) (.seq (.gQ (sq 30 [mv 5,mv 1,mv 6,mv 8,.slc (t0 31) 1 (some (t0 32)) (some (t0 33)) none,.pF 35 22 1 [(t0 34)],ap 36 22 1 24 30 35]++sq 5 [mv 36])) (.gQ (sq 37 [mv 8]++sq 6 [mv 37]))))) (.gQ (sq 24 [mv 7,bi .add 24 1]++sq 7 [mv 25]))))))) (.seq (.gQ (sq 38 [mv 5]++sq 4 [mv 38])) .ret))))))
theorem V2:jV Tryz.prog 150 Sw 39 [.tmp 4]:=mf Tryz.func150 Tryz.ntmps150
def mQ(sig:gk)(t:gk):(gp×Int×Int)->Option ((gp×Int×Int)⊕gp)
 |(out,at',k)=>
  if 0<=(t.getD 0 default)/\(t.getD 0 default)<(sig.length:Int)then
   if(decide (k<(sig.getD (t.getD 0 default).toNat default)))=true then
    (o_ sig t at').bind fun r=>
    if 0<=at'/\at'<=r/\r<=(t.length:Int)then
     if(out.length+1)*24<=140737488355328 then
      some (.inl ((out++[((t.take r.toNat).drop at'.toNat)]),r,(IntKind.i64.wrap (k+1))))
     else none
    else none
   else
    Option.map Sum.inr (
     some out)
  else none
def nD(sig:gk)(t:gk):Option gp:=
 if 0<=0/\0<(t.length:Int)then
  if(decide ((t.getD 0 default)<0))=true then
   some []
  else
   g_ (mQ sig t) ([],1,0)
 else none
instance LF{sig:gk}{t:gk}:iH (nD sig t) fun rr=>jF Tryz.prog 150 [iU sig,(gS 1 iD) t] ((gS 1 (gS 1 iD)) rr):=⟨@fun rr h=>by
 delta nD at h;refine V2.jf (gO ?_);delta Sw;refine iE ?_;refine jG h fun hp h=>?_
 refine iF h fun hc1 h=>?_
 refine kT h [5,6,7,8,15,16,17,18,19,20,21,22,23,24,25,26,27,28,29,30,31,32,33,34,35,36,37] (fun pp=>[(5,.own 1 9 (List.map (gS 1 iD) pp.1)),(6,.d (iD pp.2.1)),(7,.d (iD pp.2.2))]) (fun pp=>[(2,.obj 30 [.d (gS 1 iD sig)]),(9,.tok 22 1 pp.1.length)]) ?_;rintro⟨out,at',k⟩ t1 h hb1;unfold mQ at h;try dsimp only at h
 refine gO (iE ?_);refine pz ?_;refine jG h fun hp h=>?_
 refine jy (by kernel_rfl) (iE ?_);refine iT h fun hc2 h=>?_
 refine rC h fun r hr h=>?_
 refine jG h fun hp h=>?_
 refine jG h fun hp h=>?_
 cases h;refine⟨_,rfl,?_⟩;refine(ij.drop 35 gN).trans ?_;exact wk⟩
def uD:gV:=
 (.seq (.gQ (sq 4 [bo 4 30 0]++sq 8 [mb false])) (.seq (.gQ (sq 13 [mv 2,.zC 14 22 1 [(t0 13)]]++sq 9 [mv 14])) (.seq (.gQ (sq 15 [mv 3,.zC 16 22 1 [(t0 15)]]++sq 10 [mv 16])) (.seq (.block 0 (.loop (.seq (.seq (.gQ (sq 17 [mv 9,ln 17,bi .gtr 18 0])) (.cond (t0 19) .skip (.exit 0))) (.block 1 (.seq (.gQ (sq 20 [mv 1,mv 9,mv 9,ln 22,bi .sub 23 1,ix 1 21 24,ld 25,cf 148 [20,26]]++sq 11 [mv 27])) (.seq (.gQ (sq 28 [mv 1,mv 10,mv 10,ln 30,bi .sub 31 1,ix 1 29 32,ld 33,cf 148 [28,34]]++sq 12 [mv 35])) (.seq (.gQ (sq 36 [mv 9,mv 9,ln 37,bi .sub 38 1,.CT (t0 36) 1 (t0 39)]++sq 9 [mv 40])) (.seq (.gQ (sq 41 [mv 10,mv 10,ln 42,bi .sub 43 1,.CT (t0 41) 1 (t0 44)]++sq 10 [mv 45])) (.block 2 (.seq (.draw (sq 57 [mv 11,.tg 1 (t0 57) (i0 0),ld 58,mv 12,.tg 1 (t0 60) (i0 0),ld 61,bn .eql 59 62,mv 63]++sg 64 true 65 [mv 11,.tg 1 (t0 65) (i0 0),ld 66,bi .lss 67 0]++sq 69 [pa 64 68]++sq 56 [mv 69]) [[],[0],[1],[],[3],[4],[2,5],[6],[7],[8,7],[9,7],[10,7],[7,11],[12,7]]) (.cond (t0 56) (.exit 1) (.seq (.gQ (sq 71 [mv 11,.tg 1 (t0 71) (i0 0),ld 72,bi .lss 73 0]++sq 70 [mv 74])) (.cond (t0 70) (.seq (.seq (.gQ (sq 75 [mv 1,mv 11,.tg 1 (t0 76) (i0 0),ld 77,mv 12,cf 149 [75,78,79]])) (.cond (t0 80) (.seq (.gQ (sq 8 [mb false])) .ret) .skip)) (.draw (sq 81 [mv 1,.nV (t0 81),fa 0 82,ld 83,mv 11,.tg 1 (t0 85) (i0 0),ld 86,.bin .sub (i0 (-1)) (t0 87),mv 12,ix 1 84 88]++s0 (sr 1 90 89)) [[],[0],[1],[2],[],[4],[5],[6],[],[3,7,0,1,2,3,4,5,6,7,8],[9,8,0,1,2,3,4,5,6,7,8]])) (.seq (.gQ (sq 92 [mv 12,.tg 1 (t0 92) (i0 0),ld 93,bi .lss 94 0]++sq 91 [mv 95])) (.cond (t0 91) (.seq (.seq (.gQ (sq 96 [mv 1,mv 12,.tg 1 (t0 97) (i0 0),ld 98,mv 11,cf 149 [96,99,100]])) (.cond (t0 101) (.seq (.gQ (sq 8 [mb false])) .ret) .skip)) (.draw (sq 102 [mv 1,.nV (t0 102),fa 0 103,ld 104,mv 12,.tg 1 (t0 106) (i0 0),ld 107,.bin .sub (i0 (-1)) (t0 108),mv 11,ix 1 105 109]++s0 (sr 1 111 110)) [[],[0],[1],[2],[],[4],[5],[6],[],[3,7,0,1,2,3,4,5,6,7,8],[9,8,0,1,2,3,4,5,6,7,8]])) (.seq (.draw (sq 113 [mv 11,.tg 1 (t0 113) (i0 0),ld 114,mv 12,.tg 1 (t0 116) (i0 0),ld 117,bn .neq 115 118]++sq 112 [mv 119]) [[],[0],[1],[],[3],[4],[2,5],[6]]) (.cond (t0 112) (.seq (.gQ (sq 8 [mb false])) .ret) (.seq (.gQ (sq 46 [mv 9,la 1 4,mv 11,cf 150 [47,48],ap 50 22 1 24 46 49]++sq 9 [mv 50])) (.gQ (sq 51 [mv 10,la 1 4,mv 12,cf 150 [52,53],ap 55 22 1 24 51 54]++sq 10 [mv 55])))))))))))))))))))) (.seq (.gQ (sq 8 [mb true])) .ret)))))
theorem y_:jV Tryz.prog 133 uD 120 [.tmp 8]:=mf Tryz.func133 Tryz.ntmps133
def lR(sig:gk):(gp×gp×gp)->Option ((gp×gp×gp)⊕(Bool×gp))
 |(b,g14,g16)=>
  if(decide (0<(g14.length:Int)))=true then
   if 0<=(IntKind.i64.wrap ((g14.length:Int)-1))/\(IntKind.i64.wrap ((g14.length:Int)-1))<(g14.length:Int)then
    (oq (g14.getD (IntKind.i64.wrap ((g14.length:Int)-1)).toNat default) b).bind fun r=>
    if 0<=(IntKind.i64.wrap ((g16.length:Int)-1))/\(IntKind.i64.wrap ((g16.length:Int)-1))<(g16.length:Int)then
     (oq (g16.getD (IntKind.i64.wrap ((g16.length:Int)-1)).toNat default) b).bind fun r_1=>
     if 0<=(IntKind.i64.wrap ((g14.length:Int)-1))/\(IntKind.i64.wrap ((g14.length:Int)-1))<=(g14.length:Int)then
      if 0<=(IntKind.i64.wrap ((g16.length:Int)-1))/\(IntKind.i64.wrap ((g16.length:Int)-1))<=(g16.length:Int)then
       if 0<=0/\0<(r.length:Int)then
        if 0<=0/\0<(r_1.length:Int)then
         if((r.getD 0 default)==(r_1.getD 0 default))=true then
          if(decide ((r.getD 0 default)<0))=true then
           some (.inl (b,(g14.take (IntKind.i64.wrap ((g14.length:Int)-1)).toNat),(g16.take (IntKind.i64.wrap ((g16.length:Int)-1)).toNat)))
          else
           (nD sig r).bind fun r_4=>
           if((g14.take (IntKind.i64.wrap ((g14.length:Int)-1)).toNat).length+r_4.length)*24<=140737488355328 then
            (nD sig r_1).bind fun r_5=>
            if((g16.take (IntKind.i64.wrap ((g16.length:Int)-1)).toNat).length+r_5.length)*24<=140737488355328 then
             some (.inl (b,((g14.take (IntKind.i64.wrap ((g14.length:Int)-1)).toNat)++r_4),((g16.take (IntKind.i64.wrap ((g16.length:Int)-1)).toNat)++r_5)))
            else none
           else none
         else
          if(decide ((r.getD 0 default)<0))=true then
           (kZ (r.getD 0 default) r_1 b).bind fun r_6=>
           if r_6=true then
            Option.map Sum.inr (
             some (false,b))
           else
            if 0<=(IntKind.i64.wrap ((-1)-(r.getD 0 default)))/\(IntKind.i64.wrap ((-1)-(r.getD 0 default)))<(48:Int)/\(IntKind.i64.wrap ((-1)-(r.getD 0 default)))<(b.length:Int)then
             some (.inl ((b.set (IntKind.i64.wrap ((-1)-(r.getD 0 default))).toNat r_1),(g14.take (IntKind.i64.wrap ((g14.length:Int)-1)).toNat),(g16.take (IntKind.i64.wrap ((g16.length:Int)-1)).toNat)))
            else none
          else
           if(decide ((r_1.getD 0 default)<0))=true then
            (kZ (r_1.getD 0 default) r b).bind fun r_7=>
            if r_7=true then
             Option.map Sum.inr (
              some (false,b))
            else
             if 0<=(IntKind.i64.wrap ((-1)-(r_1.getD 0 default)))/\(IntKind.i64.wrap ((-1)-(r_1.getD 0 default)))<(48:Int)/\(IntKind.i64.wrap ((-1)-(r_1.getD 0 default)))<(b.length:Int)then
              some (.inl ((b.set (IntKind.i64.wrap ((-1)-(r_1.getD 0 default))).toNat r),(g14.take (IntKind.i64.wrap ((g14.length:Int)-1)).toNat),(g16.take (IntKind.i64.wrap ((g16.length:Int)-1)).toNat)))
             else none
           else
            Option.map Sum.inr (
             some (false,b))
        else none
       else none
      else none
     else none
    else none
   else none
  else
   Option.map Sum.inr (
    some (true,b))
def lJ(sig:gk)(s:gk)(t:gk)(l1:gp):Option (Bool×gp):=
 g_ (lR sig) (l1,[s],[t])
instance Mk{sig:gk}{s:gk}{t:gk}{l1:gp}:iH (lJ sig s t l1) fun rr=>h_ Tryz.prog 133 [.d (.agg [gS 1 iD sig]),.ptr 0 0,.d (gS 1 iD s),.d (gS 1 iD t)] [(0,.obj 198 [.oX 1 1 0 48]),(1,.obj 22 (List.map (aD (gS 1 iD)) l1))] 2 fun xx ss=>xx=.d (bD rr.1)/\ss=[(0,.obj 198 [.oX 1 1 0 48]),(1,.obj 22 (List.map (aD (gS 1 iD)) rr.2))]:=⟨@fun rr h=>by
 delta lJ at h;refine y_.mm (gO ?_);delta uD;refine iE ?_;refine kT h [8,9,10,11,12,14,16,17,18,19,20,21,22,23,24,25,26,27,28,29,30,31,32,33,34,35,36,37,38,39,40,41,42,43,44,45,46,47,48,49,50,51,52,53,54,55,56,57,58,59,60,61,62,63,64,65,66,67,68,69,70,71,72,73,74,75,76,77,78,79,80,81,82,83,84,85,86,87,88,89,90,91,92,93,94,95,96,97,98,99,100,101,102,103,104,105,106,107,108,109,110,111,112,113,114,115,116,117,118,119] (fun pp=>[(9,.kL 1 14 pp.2.1.length),(10,.kL 1 16 pp.2.2.length)]) (fun pp=>[(0,.obj 198 [.oX 1 1 0 48]),(1,.obj 22 (List.map (aD (gS 1 iD)) pp.1)),(4,.obj 30 [.d (gS 1 iD sig)]),(14,.kO 22 1 pp.2.1.length (lq (gS 1 iD) pp.2.1)),(16,.kO 22 1 pp.2.2.length (lq (gS 1 iD) pp.2.2))]) ?_;rintro⟨b,g14,g16⟩ t1 h hb1;unfold lR at h;try dsimp only at h
 refine gO (iE ?_);refine it h (fun hc1 h=>?_) fun hc1 h=>?_
 ·refine jG h fun hp h=>?_
  refine pz ?_;refine vf [(0,0),(1,1)] [] h fun r hr h=>?_
  refine jG h fun hp h=>?_
  refine pz ?_;refine vf [(0,0),(1,1)] [] h fun r_1 hr_1 h=>?_
  refine jG h fun hp h=>?_
  refine jG h fun hp h=>?_
  refine jG h fun hp h=>?_
  refine jG h fun hp h=>?_
  refine it h (fun hc2 h=>?_) fun hc2 h=>?_
  ·refine pz ?_;refine jy (by kernel_rfl) (iE ?_);refine iF h fun hc3 h=>?_
   refine pz ?_;have hc:=hc3;refine qz hc ?_;refine pz ?_;have hc:(decide ((r_1.getD 0 default)<0))=false:=by simp only[bF,d_,fK,aA,ct,bW,cN]at hc1 hc2 hc3⊢;omega
   refine qz hc ?_;refine pz ?_;refine pz ?_;refine jy (by kernel_rfl) (iE ?_);have hc:((r.getD 0 default) != (r_1.getD 0 default))=false:=by simp only[bF,d_,fK,aA,ct,bW,cN]at hc1 hc2 hc3⊢;omega
   refine qz hc ?_;exact nr
  refine jy (by kernel_rfl) (iE ?_);refine pz ?_;refine it h (fun hc4 h=>?_) fun hc4 h=>?_
  ·refine pz ?_;refine vf [(0,0),(1,1)] [] h fun r_6 hr_6 h=>?_
   refine iT h fun hc5 h=>?_
   replace h:=jg h hb1;cases h;exact⟨[4,14,16],by simp,oG,oG⟩
  refine pz ?_;refine it h (fun hc6 h=>?_) fun hc6 h=>?_
  ·refine pz ?_;refine vf [(0,0),(1,1)] [] h fun r_7 hr_7 h=>?_
   refine iT h fun hc7 h=>?_
   replace h:=jg h hb1;cases h;exact⟨[4,14,16],by simp,oG,oG⟩
  refine pz ?_;refine pz ?_;refine jy (by kernel_rfl) (iE ?_);have hc:((r.getD 0 default) != (r_1.getD 0 default))=true:=by simp only[bF,d_,fK,aA,ct,bW,cN]at hc1 hc2 hc4 hc6⊢;omega
  refine qz hc ?_;replace h:=jg h hb1;cases h;exact⟨[4,14,16],by simp,oG,oG⟩
 replace h:=jg h hb1;cases h;exact⟨[4,14,16],by simp,oG,oG⟩⟩
def uZ:gV:=
 (.seq (.gQ (sq 4 [bo 4 33 0]++sq 8 [.mv (.const (.pointer none)),mb false])) (.seq (.gQ (sq 13 [.yC 13 22 1 24 [.sl 0 (some true) []] false (i0 48) (i0 48),.build [.sl 0 (some true) []] [(0,1,(t0 13))],bo 15 198 14]++sq 10 [mv 15])) (.seq (.gQ (sq 16 [fa 1 4,ld 16,mv 1,ix 2 17 18,fa 0 19,ld 20]++sq 11 [mv 21])) (.seq (.gQ (sq 22 [fa 0 4,la 1 22,mv 11,mv 2,cf 102 [23,24,25]]++sq 12 [mv 26])) (.seq (.ghost (.draw (sq 27 [mv 10,fa 0 4,la 1 28,mv 10,mv 11,mv 2,mv 12,.slc (t0 31) 1 (some (t0 32)) (some (t0 33)) none,fa 1 4,ld 35,mv 3,ix 2 36 37,fa 0 38,ld 39,.me 103 [(t0 40),(i0 24)],cf 133 [29,30,34,41]]++sq 8 [mv 27,mv 42]) [[],[],[1],[],[],[],[],[4,5,6],[],[8],[],[9,10],[11],[12],[13],[2,3,7,14,14],[0,15,0],[15,16,0,1,2,3,4,5,6,7,8,9,10,11,12,13,14,15,16]])) .ret)))))
theorem zH:jV Tryz.prog 101 uZ 43 [.tmp 8,.tmp 9]:=mf Tryz.func101 Tryz.ntmps101
def lC(sys:gC)(over:Int)(at':Int)(under:Int):Option (Bool×gp):=
 if 0<=over/\over<(sys.2.length:Int)then
  (o_ sys.1 ((sys.2.getD over.toNat default).1) at').bind fun r=>
  if 0<=at'/\at'<=r/\r<=(((sys.2.getD over.toNat default).1).length:Int)then
   if 0<=under/\under<(sys.2.length:Int)then
    (oo ((sys.2.getD under.toNat default).1) 24).bind fun r_1=>
    (lJ sys.1 ((((sys.2.getD over.toNat default).1).take r.toNat).drop at'.toNat) r_1 (List.replicate 48 [])).bind fun r_2=>
    some r_2
   else none
  else none
 else none
instance OP{sys:gC}{over:Int}{at':Int}{under:Int}:iH (lC sys over at' under) fun rr=>h_ Tryz.prog 101 [.d (.agg [gS 1 iD sys.1,gS 2 gP sys.2]),.d (iD over),.d (iD at'),.d (iD under)] [] 0 fun xx ss=>xx=.lE [.ptr 15 0,.d (bD rr.1)]/\ss=[(13,.obj 22 (List.map (aD (gS 1 iD)) rr.2)),(15,.obj 198 [.oX 1 13 0 48])]:=⟨@fun rr h=>by
 delta lC at h;refine zH.mm (gO ?_);delta uZ;refine iE ?_;refine pz ?_;refine jG h fun hp h=>?_
 refine rC h fun r hr h=>?_
 refine jX.of ((ij.U5 (s':=[(4,.obj 33 [.d (gS 1 iD sys.1),.d (gS 2 gP sys.2)]),(13,.obj 22 (List.map (aD (gS 1 iD)) (List.replicate 48 []))),(15,.obj 198 [.oX 1 13 0 48])]) (iG.refl _) oG)) ?_;refine iE ?_;refine jG h fun hp h=>?_
 refine jG h fun hp h=>?_
 refine dC h fun r_1 hr_1 h=>?_
 refine PM [(0,15),(1,13)] [] h fun r_2 hr_2 h=>?_
 refine jy (by kernel_rfl) (iE ?_);cases h;exact⟨[4],by simp,oG,oG⟩⟩
def Xf:gV:=
 (.seq (.gQ (sq 4 [bo 4 33 0]++sq 8 [mb false])) (.seq (.gQ (sq 12 [fa 1 4,ld 12,mv 1,ix 2 13 14,fa 0 15,ld 16]++sq 9 [mv 17])) (.seq (.seq (.gQ (sq 18 [mv 2,mv 9,ln 19,bi .sub 20 1,.me 61 [(t0 18),(i0 0),(t0 21)],nt 22,mv 23]++sg 24 false 25 [mv 9,mv 2,ix 1 25 26,ld 27,bi .lss 28 0]++sq 30 [po 24 29,mv 30]++sg 31 false 32 [mv 2,bi .eql 32 0,mv 33]++sg 34 true 35 [mv 1,mv 3,bn .eql 35 36]++sg 31 false 38 [pa 34 37]++sq 39 [po 31 38])) (.cond (t0 39) (.seq (.gQ (sq 8 [mb false])) .ret) .skip)) (.seq (.gQ (sq 41 [la 2 4,mv 1,mv 2,mv 3,cf 101 [41,42,43,44]]++sq 40 [mv 45]++sq 46 [ex 40 0,ex 40 1]++sq 10 [mv 46,mv 47])) (.seq (.gQ (sq 48 [mv 11]++sq 8 [mv 48])) .ret)))))
theorem YY:jV Tryz.prog 77 Xf 49 [.tmp 8]:=mf Tryz.func77 Tryz.ntmps77
def ju(sys:gC)(over:Int)(at':Int)(under:Int):Option Bool:=
 if 0<=over/\over<(sys.2.length:Int)then
  (ki at' 0 (IntKind.i64.wrap ((((sys.2.getD over.toNat default).1).length:Int)-1))).bind fun r=>
  if r=true then
   if 0<=at'/\at'<(((sys.2.getD over.toNat default).1).length:Int)then
    if(decide ((((sys.2.getD over.toNat default).1).getD at'.toNat default)<0))=true then
     some false
    else
     if(at'==0)=true then
      if(over==under)=true then
       some false
      else
       (lC sys over at' under).bind fun r_1=>
       some r_1.1
     else
      (lC sys over at' under).bind fun r_2=>
      some r_2.1
   else none
  else
   some false
 else none
instance LC{sys:gC}{over:Int}{at':Int}{under:Int}:iH (ju sys over at' under) fun rr=>jF Tryz.prog 77 [ia sys,iD over,iD at',iD under] (bD rr):=⟨@fun rr h=>by
 delta ju at h;refine YY.jf (gO ?_);delta Xf;refine iE ?_;refine jG h fun hp h=>?_
 refine rC h fun r hr h=>?_
 refine iT h fun hc1 h=>?_
 refine jG h fun hp h=>?_
 refine iF h fun hc2 h=>?_
 refine it h (fun hc3 h=>?_) fun hc3 h=>?_
 ·refine iF h fun hc4 h=>?_
  refine vf [] [(15,45),(13,200000)] h fun r_1 hr_1 h=>?_
  exact nr
 refine vf [] [(15,45),(13,200000)] h fun r_2 hr_2 h=>?_
 exact nr⟩
def jz(x:gq):D:=.agg [(gS 1 iD) x.1,(gS 1 iD) x.2.1,(gS 1 iD) x.2.2.1,iD x.2.2.2.1,iD x.2.2.2.2.1,iD x.2.2.2.2.2]
instance:sU jz 6:=⟨fun _=>rfl⟩
attribute [go_sem] jz
def RV:gV:=
 (.seq (.gQ (sq 4 [.mv (.const (.slice none 0 0))])) (.seq (.gQ (sq 8 [.pF 8 2 1 []]++sq 5 [mv 8])) (.seq (.seq (.gQ (sq 6 [mi 0])) (.block 0 (.loop (.seq (.seq (.gQ (sq 9 [mv 6,mv 1,ln 10,bn .lss 9 11])) (.cond (t0 12) .skip (.exit 0))) (.seq (.block 1 (.seq (.seq (.draw (sq 15 [mv 1,mv 6,ix 1 15 16,ld 17,bi .geq 18 0,mv 19]++sg 20 false 21 [mv 0,.nV (t0 21),fa 0 22,ld 23,mv 1,mv 6,ix 1 25 26,ld 27,.bin .sub (i0 (-1)) (t0 28),ix 1 24 29,ld 30,ln 31,bi .eql 32 0]++sq 34 [po 20 33]) [[],[],[0,1],[2],[3],[4],[5],[6,5],[7,5],[8,5],[5],[5],[10,11,5],[12,5],[13,5],[9,14,5],[15,5],[16,5],[17,5],[5,18]]) (.cond (t0 34) (.gQ (sq 35 [mv 5,mv 1,mv 6,ix 1 36 37,ld 38,.pF 40 2 1 [(t0 39)],ap 41 2 1 8 35 40]++sq 5 [mv 41])) (.seq (.draw (sq 42 [mv 0,mv 0,.nV (t0 43),fa 0 44,ld 45,mv 1,mv 6,ix 1 47 48,ld 49,.bin .sub (i0 (-1)) (t0 50),ix 1 46 51,ld 52,cf 104 [42,53]]++sq 7 [mv 54]) [[],[],[1],[2],[3],[],[],[5,6],[7],[8],[4,9],[10],[0,11],[12,12,0,1,2,3,4,5,6,7,8,9,10,11,12]]) (.seq (.seq (.gQ (sq 55 [mv 7,ln 55,bi .eql 56 0])) (.cond (t0 57) (.seq (.gQ (sq 58 [.pF 58 2 1 []]++sq 4 [mv 58])) .ret) .skip)) (.gQ (sq 59 [mv 5,mv 7,ap 61 2 1 8 59 60]++sq 5 [mv 61])))))) (.seq (.gQ (sq 62 [mv 5,ln 62,bi .gtr 63 60])) (.cond (t0 64) (.seq (.gQ (sq 65 [.pF 65 2 1 []]++sq 4 [mv 65])) .ret) .skip)))) (.gQ (sq 13 [mv 6,bi .add 13 1]++sq 6 [mv 14]))))))) (.seq (.gQ (sq 66 [mv 5]++sq 4 [mv 66])) .ret))))
theorem Vv:jV Tryz.prog 104 RV 67 [.tmp 4]:=mf Tryz.func104 Tryz.ntmps104
def rO(rec:gk->gp->Option gk)(t:gk)(l1:gp):gH->Option (gH⊕gk)
 |(out,i)=>
  if(decide (i<(t.length:Int)))=true then
   if 0<=i/\i<(t.length:Int)then
    if(decide (0<=(t.getD i.toNat default)))=true then
     if(out.length+1)*8<=140737488355328 then
      if(decide (60<((out++[(t.getD i.toNat default)]).length:Int)))=true then
       Option.map Sum.inr (
        some [])
      else
       some (.inl ((out++[(t.getD i.toNat default)]),(IntKind.i64.wrap (i+1))))
     else none
    else
     if 0<=(IntKind.i64.wrap ((-1)-(t.getD i.toNat default)))/\(IntKind.i64.wrap ((-1)-(t.getD i.toNat default)))<(48:Int)/\(IntKind.i64.wrap ((-1)-(t.getD i.toNat default)))<(l1.length:Int)then
      if(((l1.getD (IntKind.i64.wrap ((-1)-(t.getD i.toNat default))).toNat default).length:Int)==0)=true then
       if(out.length+1)*8<=140737488355328 then
        if(decide (60<((out++[(t.getD i.toNat default)]).length:Int)))=true then
         Option.map Sum.inr (
          some [])
        else
         some (.inl ((out++[(t.getD i.toNat default)]),(IntKind.i64.wrap (i+1))))
       else none
      else
       (rec (l1.getD (IntKind.i64.wrap ((-1)-(t.getD i.toNat default))).toNat default) l1).bind fun r=>
       if((r.length:Int)==0)=true then
        Option.map Sum.inr (
         some [])
       else
        if(out.length+r.length)*8<=140737488355328 then
         if(decide (60<((out++r).length:Int)))=true then
          Option.map Sum.inr (
           some [])
         else
          some (.inl ((out++r),(IntKind.i64.wrap (i+1))))
        else none
     else none
   else none
  else
   Option.map Sum.inr (
    some out)
def mN:Nat->gk->gp->Option gk
 |0,_,_=>none
 |fu+1,t,l1=>
  g_ (rO (mN fu) t l1) ([],0)
def mO(t:gk)(l1:gp):Option gk:=Dr fun fu=>mN fu t l1
theorem xu:∀{fu:Nat}{t:gk}{l1:gp}{rr:gk}(h:mN fu t l1=some rr),h_ Tryz.prog 104 [.ptr 0 0,.d (gS 1 iD t)] [(0,.obj 198 [.oX 1 1 0 48]),(1,.obj 22 (List.map (aD (gS 1 iD)) l1))] 2 fun xx ss=>xx=.d (gS 1 iD rr)/\ss=[(0,.obj 198 [.oX 1 1 0 48]),(1,.obj 22 (List.map (aD (gS 1 iD)) l1))]
 |0,_,_,_,h=>by cases h
 |fu+1,t,l1,rr,h=>by
  have ih:∀{t:gk}{l1:gp},iH (mN fu t l1) fun rr=>h_ Tryz.prog 104 [.ptr 0 0,.d (gS 1 iD t)] [(0,.obj 198 [.oX 1 1 0 48]),(1,.obj 22 (List.map (aD (gS 1 iD)) l1))] 2 fun xx ss=>xx=.d (gS 1 iD rr)/\ss=[(0,.obj 198 [.oX 1 1 0 48]),(1,.obj 22 (List.map (aD (gS 1 iD)) l1))]:=⟨fun h=>xu h⟩
  unfold mN at h;refine Vv.mm (gO ?_);delta RV;refine iE ?_;refine kT h [4,5,6,7,9,10,11,12,13,14,15,16,17,18,19,20,21,22,23,24,25,26,27,28,29,30,31,32,33,34,35,36,37,38,39,40,41,42,43,44,45,46,47,48,49,50,51,52,53,54,55,56,57,58,59,60,61,62,63,64,65] (fun pp=>[(5,.own 1 8 (List.map iD pp.1)),(6,.d (iD pp.2))]) (fun pp=>[(0,.obj 198 [.oX 1 1 0 48]),(1,.obj 22 (List.map (aD (gS 1 iD)) l1)),(8,.tok 2 1 pp.1.length)]) ?_;rintro⟨out,i⟩ t1 h hb1;unfold rO at h;try dsimp only at h
  refine gO (iE ?_);refine it h (fun hc1 h=>?_) fun hc1 h=>?_
  ·refine jG h fun hp h=>?_
   refine it h (fun hc2 h=>?_) fun hc2 h=>?_
   ·refine jy (by kernel_rfl) (iE ?_);refine pz ?_;refine jG h fun hp h=>?_
    refine it h (fun hc3 h=>?_) fun hc3 h=>?_
    ·replace h:=jg h hb1;cases h;exact⟨[8,40,65],by simp,oG,oG⟩
    cases h;refine⟨_,rfl,?_⟩;refine(ij.drop 40 gN).trans ?_;exact wk
   refine pz ?_;refine jG h fun hp h=>?_
   refine jy (by kernel_rfl) (iE ?_);refine it h (fun hc4 h=>?_) fun hc4 h=>?_
   ·refine pz ?_;refine jG h fun hp h=>?_
    refine it h (fun hc5 h=>?_) fun hc5 h=>?_
    ·replace h:=jg h hb1;cases h;exact⟨[8,40,65],by simp,oG,oG⟩
    cases h;refine⟨_,rfl,?_⟩;refine(ij.drop 40 gN).trans ?_;exact wk
   refine pz ?_;refine pz ?_;refine PM [(0,0),(1,1)] [] h fun r hr h=>?_
   refine jy (by kernel_rfl) (iE ?_);refine it h (fun hc6 h=>?_) fun hc6 h=>?_
   ·replace h:=jg h hb1;cases h;exact⟨[8,58],by simp,oG,oG⟩
   refine jG h fun hp h=>?_
   refine iT h fun hc7 h=>?_
   replace h:=jg h hb1;cases h;exact⟨[8,65],by simp,oG,oG⟩
  replace h:=jg h hb1;cases h;exact⟨[8],by simp,oG,oG⟩
instance Hf{t:gk}{l1:gp}:iH (mO t l1) fun rr=>h_ Tryz.prog 104 [.ptr 0 0,.d (gS 1 iD t)] [(0,.obj 198 [.oX 1 1 0 48]),(1,.obj 22 (List.map (aD (gS 1 iD)) l1))] 2 fun xx ss=>xx=.d (gS 1 iD rr)/\ss=[(0,.obj 198 [.oX 1 1 0 48]),(1,.obj 22 (List.map (aD (gS 1 iD)) l1))]:=⟨fun h=>xu (vS h).choose_spec⟩
def RW:gV:=
 (.seq (.gQ (sq 2 [.mv (.const (.slice none 0 0))])) (.seq (.gQ (sq 5 [.pF 5 2 1 []]++sq 3 [mv 5])) (.seq (.seq (.gQ (sq 4 [mi 0])) (.block 0 (.loop (.seq (.seq (.gQ (sq 6 [mv 4,mv 0,ln 7,bn .lss 6 8])) (.cond (t0 9) .skip (.exit 0))) (.seq (.block 1 (.seq (.gQ (sq 12 [mv 0,mv 4,ix 1 12 13,ld 14,bi .lss 15 0,mv 16]++sg 17 true 18 [mv 3,mv 0,mv 4,ix 1 19 20,ld 21,cf 100 [18,22],nt 23]++sq 25 [pa 17 24])) (.cond (t0 25) (.gQ (sq 26 [mv 3,mv 0,mv 4,ix 1 27 28,ld 29,.pF 31 2 1 [(t0 30)],ap 32 2 1 8 26 31]++sq 3 [mv 32])) .skip))) (.gQ (sq 10 [mv 4,bi .add 10 1]++sq 4 [mv 11]))))))) (.seq (.gQ (sq 33 [mv 3]++sq 2 [mv 33])) .ret))))
theorem Vw:jV Tryz.prog 105 RW 34 [.tmp 2]:=mf Tryz.func105 Tryz.ntmps105
def pL(t:gk):gH->Option (gH⊕gk)
 |(out,i)=>
  if(decide (i<(t.length:Int)))=true then
   if 0<=i/\i<(t.length:Int)then
    if(decide ((t.getD i.toNat default)<0))=true then
     (qp out (t.getD i.toNat default)).bind fun r=>
     if r=true then
      some (.inl (out,(IntKind.i64.wrap (i+1))))
     else
      if(out.length+1)*8<=140737488355328 then
       some (.inl ((out++[(t.getD i.toNat default)]),(IntKind.i64.wrap (i+1))))
      else none
    else
     some (.inl (out,(IntKind.i64.wrap (i+1))))
   else none
  else
   Option.map Sum.inr (
    some out)
def pX(t:gk):Option gk:=
 g_ (pL t) ([],0)
instance Mo{t:gk}:iH (pX t) fun rr=>jF Tryz.prog 105 [(gS 1 iD) t] ((gS 1 iD) rr):=⟨@fun rr h=>by
 delta pX at h;refine Vw.jf (gO ?_);delta RW;refine iE ?_;refine kT h [3,4,6,7,8,9,10,11,12,13,14,15,16,17,18,19,20,21,22,23,24,25,26,27,28,29,30,31,32] (fun pp=>[(3,.own 1 5 (List.map iD pp.1)),(4,.d (iD pp.2))]) (fun pp=>[(5,.tok 2 1 pp.1.length)]) ?_;rintro⟨out,i⟩ t1 h hb1;unfold pL at h;try dsimp only at h
 refine gO (iE ?_);refine iT h fun hc1 h=>?_
 refine jG h fun hp h=>?_
 refine iT h fun hc2 h=>?_
 refine pz ?_;refine rC h fun r hr h=>?_
 refine iF h fun hc3 h=>?_
 refine pz ?_;refine jG h fun hp h=>?_
 cases h;refine⟨_,rfl,?_⟩;refine(ij.drop 31 gN).trans ?_;exact wk⟩
def RX:gV:=
 (.seq (.gQ (sq 4 [.mv (.const (.slice none 0 0))])) (.seq (.gQ (sq 9 [.pF 9 2 1 []]++sq 5 [mv 9])) (.seq (.seq (.gQ (sq 6 [mi 0])) (.block 0 (.loop (.seq (.seq (.gQ (sq 10 [mv 6,mv 1,ln 11,bn .lss 10 12])) (.cond (t0 13) .skip (.exit 0))) (.seq (.block 1 (.seq (.gQ (sq 16 [mv 1,mv 6,ix 1 16 17,ld 18]++sq 7 [mv 19])) (.seq (.seq (.gQ (sq 8 [mi 0])) (.block 2 (.loop (.seq (.seq (.gQ (sq 20 [mv 8,mv 0,ln 21,bn .lss 20 22,mv 23]++sg 24 true 25 [mv 1,mv 6,ix 1 25 26,ld 27,bi .lss 28 0]++sq 30 [pa 24 29])) (.cond (t0 30) .skip (.exit 2))) (.seq (.block 3 (.seq (.draw (sq 33 [mv 0,mv 8,ix 1 33 34,ld 35,mv 1,mv 6,ix 1 37 38,ld 39,bn .eql 36 40]) [[],[],[0,1],[2],[],[],[4,5],[6],[3,7]]) (.cond (t0 41) (.gQ (sq 42 [mv 8,.bin .sub (i0 (-1)) (t0 42)]++sq 7 [mv 43])) .skip))) (.gQ (sq 31 [mv 8,bi .add 31 1]++sq 8 [mv 32]))))))) (.gQ (sq 44 [mv 5,mv 7,.pF 46 2 1 [(t0 45)],ap 47 2 1 8 44 46]++sq 5 [mv 47]))))) (.gQ (sq 14 [mv 6,bi .add 14 1]++sq 6 [mv 15]))))))) (.seq (.gQ (sq 48 [mv 5]++sq 4 [mv 48])) .ret))))
theorem Vx:jV Tryz.prog 106 RX 49 [.tmp 4]:=mf Tryz.func106 Tryz.ntmps106
def ou(order:gk)(t:gk)(out:gk)(i:Int):gG->Option (gG⊕(gH⊕gk))
 |(n,k)=>
  if(decide (k<(order.length:Int)))=true then
   if(decide ((t.getD i.toNat default)<0))=true then
    if 0<=k/\k<(order.length:Int)then
     if((order.getD k.toNat default)==(t.getD i.toNat default))=true then
      some (.inl ((IntKind.i64.wrap ((-1)-k)),(IntKind.i64.wrap (k+1))))
     else
      some (.inl (n,(IntKind.i64.wrap (k+1))))
    else none
   else
    Option.map Sum.inr (
     if(out.length+1)*8<=140737488355328 then
      some (.inl ((out++[n]),(IntKind.i64.wrap (i+1))))
     else none)
  else
   Option.map Sum.inr (
    if(out.length+1)*8<=140737488355328 then
     some (.inl ((out++[n]),(IntKind.i64.wrap (i+1))))
    else none)
def rP(order:gk)(t:gk):gH->Option (gH⊕gk)
 |(out,i)=>
  if(decide (i<(t.length:Int)))=true then
   if 0<=i/\i<(t.length:Int)then
    g_ (ou order t out i) ((t.getD i.toNat default),0)
   else none
  else
   Option.map Sum.inr (
    some out)
def pW(order:gk)(t:gk):Option gk:=
 g_ (rP order t) ([],0)
instance RD{order:gk}{t:gk}:iH (pW order t) fun rr=>jF Tryz.prog 106 [(gS 1 iD) order,(gS 1 iD) t] ((gS 1 iD) rr):=⟨@fun rr h=>by
 delta pW at h;refine Vx.jf (gO ?_);delta RX;refine iE ?_;refine kT h [5,6,7,8,10,11,12,13,14,15,16,17,18,19,20,21,22,23,24,25,26,27,28,29,30,31,32,33,34,35,36,37,38,39,40,41,42,43,44,45,46,47] (fun pp=>[(5,.own 1 9 (List.map iD pp.1)),(6,.d (iD pp.2))]) (fun pp=>[(9,.tok 2 1 pp.1.length)]) ?_;rintro⟨out,i⟩ t1 h hb1;unfold rP at h;try dsimp only at h
 refine gO (iE ?_);refine iT h fun hc1 h=>?_
 refine jG h fun hp h=>?_
 refine kT h [7,8,20,21,22,23,24,25,26,27,28,29,30,31,32,33,34,35,36,37,38,39,40,41,42,43] (fun pp=>[(7,.d (iD pp.1)),(8,.d (iD pp.2))]) (fun pp=>[(9,.tok 2 1 out.length)]) ?_;rintro⟨n,k⟩ t2 h hb2;unfold ou at h;try dsimp only at h
 refine gO (iE ?_);refine it h (fun hc2 h=>?_) fun hc2 h=>?_
 ·refine pz ?_;refine iF h fun hc3 h=>?_
  replace h:=jg h hb2;refine jG h fun hp h=>?_
  cases h;refine⟨_,rfl,?_⟩;refine(ij.drop 46 gN).trans ?_;exact wk
 replace h:=jg h hb2;refine jG h fun hp h=>?_
 cases h;refine⟨_,rfl,?_⟩;refine(ij.drop 46 gN).trans ?_;exact wk⟩
def Xg:gV:=
 (.seq (.gQ (sq 4 [bo 4 33 0]++sq 8 [.alloc 8 54 [.sl 0 (some true) [],.sl 0 (some true) [],.sl 0 (some true) [],.lit (.int .i64 0),.lit (.int .i64 0),.lit (.int .i64 0)],mb false])) (.seq (.gQ (sq 20 [la 2 4,mv 1,mv 2,mv 3,cf 101 [20,21,22,23]]++sq 19 [mv 24]++sq 25 [ex 19 0,ex 19 1]++sq 10 [mv 25,mv 26])) (.seq (.gQ (sq 27 [fa 1 4,ld 27,mv 1,ix 2 28 29,la 2 30]++sq 12 [.alloc 12 81 [.sl 0 (some true) [],.sl 0 (some true) []]]++s0 (sr 2 12 31))) (.seq (.gQ (sq 32 [fa 0 4,la 1 32,fa 0 12,ld 34,mv 2,cf 102 [33,35,36]]++sq 13 [mv 37])) (.seq (.draw (sq 38 [.pF 38 2 1 [],fa 0 12,ld 39,mv 2,.slc (t0 40) 1 none (some (t0 41)) none,ap 43 2 1 8 38 42,fa 1 4,ld 44,mv 3,ix 2 45 46,fa 1 47,ld 48,.me 103 [(t0 49),(i0 24)],ap 51 2 1 8 43 50]++sq 14 [mv 51]) [[],[],[1],[],[2,3],[0,4],[],[6],[],[7,8],[9],[10],[11,5],[5,12,12],[13,13,0,1,2,3,4,5,6,7,8,9,10,11,12,13]]) (.seq (.gQ (sq 52 [mv 10,fa 0 12,ld 53,cf 104 [52,54]]++sq 15 [mv 55])) (.seq (.gQ (sq 56 [mv 10,mv 14,fa 0 12,ld 58,mv 13,.slc (t0 59) 1 (some (t0 60)) none none,ap 62 2 1 8 57 61,cf 104 [56,62]]++sq 16 [mv 63])) (.seq (.gQ (sq 64 [mv 10,fa 1 12,ld 65,cf 104 [64,66]]++sq 17 [mv 67])) (.seq (.gQ (sq 68 [mv 15,cf 105 [68]]++sq 18 [mv 69])) (.seq (.seq (.gQ (sq 70 [mv 15,ln 70,bi .eql 71 0,mv 72]++sg 73 false 74 [mv 16,ln 74,bi .eql 75 0]++sq 77 [po 73 76,mv 77]++sg 78 false 79 [mv 17,ln 79,bi .eql 80 0]++sq 82 [po 78 81,mv 82]++sg 83 false 84 [mv 18,ln 84,bi .gtr 85 24]++sq 87 [po 83 86])) (.cond (t0 87) (.seq (.gQ (sq 88 [.build [.sl 0 (some true) [],.sl 0 (some true) [],.sl 0 (some true) [],.lit (.int .i64 0),.lit (.int .i64 0),.lit (.int .i64 0)] []]++s0 (sr 6 8 88)++sq 9 [mb false])) .ret) .skip)) (.seq (.gQ (sq 89 [mv 18,mv 15,cf 106 [89,90],mv 18,mv 16,cf 106 [92,93],mv 18,mv 17,cf 106 [95,96],mv 2,mv 3,mv 1,.build [.sl 0 (some true) [],.sl 0 (some true) [],.sl 0 (some true) [],.lit (.int .i64 0),.lit (.int .i64 0),.lit (.int .i64 0)] [(0,1,(t0 91)),(1,1,(t0 94)),(2,1,(t0 97)),(3,1,(t0 98)),(4,1,(t0 99)),(5,1,(t0 100))]]++s0 (sr 6 8 101)++sq 9 [mb true])) .ret)))))))))))
theorem YZ:jV Tryz.prog 78 Xg 102 [.cell 8 6 true,.tmp 9]:=mf Tryz.func78 Tryz.ntmps78
def mP(sys:gC)(over:Int)(at':Int)(under:Int):Option (gq×Bool):=
 (lC sys over at' under).bind fun r=>
 if 0<=over/\over<(sys.2.length:Int)then
  (o_ sys.1 ((sys.2.getD over.toNat default).1) at').bind fun r_1=>
  if 0<=at'/\at'<=(((sys.2.getD over.toNat default).1).length:Int)then
   if(0+(((sys.2.getD over.toNat default).1).take at'.toNat).length)*8<=140737488355328 then
    if 0<=under/\under<(sys.2.length:Int)then
     (oo ((sys.2.getD under.toNat default).2) 24).bind fun r_2=>
     if((((sys.2.getD over.toNat default).1).take at'.toNat).length+r_2.length)*8<=140737488355328 then
      (mO ((sys.2.getD over.toNat default).1) r.2).bind fun r_3=>
      if 0<=r_1/\r_1<=(((sys.2.getD over.toNat default).1).length:Int)then
       if(((((sys.2.getD over.toNat default).1).take at'.toNat)++r_2).length+(((sys.2.getD over.toNat default).1).drop r_1.toNat).length)*8<=140737488355328 then
        (mO (((((sys.2.getD over.toNat default).1).take at'.toNat)++r_2)++(((sys.2.getD over.toNat default).1).drop r_1.toNat)) r.2).bind fun r_4=>
        (mO ((sys.2.getD over.toNat default).2) r.2).bind fun r_5=>
        (pX r_3).bind fun r_6=>
        if((r_3.length:Int)==0)=true then
         some (([],[],[],0,0,0),false)
        else
         if((r_4.length:Int)==0)=true then
          some (([],[],[],0,0,0),false)
         else
          if((r_5.length:Int)==0)=true then
           some (([],[],[],0,0,0),false)
          else
           if(decide (24<(r_6.length:Int)))=true then
            some (([],[],[],0,0,0),false)
           else
            (pW r_6 r_3).bind fun r_7=>
            (pW r_6 r_4).bind fun r_8=>
            (pW r_6 r_5).bind fun r_9=>
            some ((r_7,r_8,r_9,at',under,over),true)
       else none
      else none
     else none
    else none
   else none
  else none
 else none
instance Ml{sys:gC}{over:Int}{at':Int}{under:Int}:iH (mP sys over at' under) fun rr=>oF Tryz.prog 78 [ia sys,iD over,iD at',iD under] [jz rr.1,bD rr.2]:=⟨@fun rr h=>by
 delta mP at h;refine YZ.pG (gO ?_);delta Xg;refine iE ?_;refine vf [] [(15,24),(13,200000)] h fun r hr h=>?_
 refine jG h fun hp h=>?_
 refine rC h fun r_1 hr_1 h=>?_
 refine jG h fun hp h=>?_
 refine jG h fun hp h=>?_
 refine jG h fun hp h=>?_
 refine dC h fun r_2 hr_2 h=>?_
 refine jG h fun hp h=>?_
 refine jy (by kernel_rfl) (iE ?_);refine vf [(0,24),(1,200000)] [] h fun r_3 hr_3 h=>?_
 refine jG h fun hp h=>?_
 refine jG h fun hp h=>?_
 refine vf [(0,24),(1,200000)] [] h fun r_4 hr_4 h=>?_
 refine vf [(0,24),(1,200000)] [] h fun r_5 hr_5 h=>?_
 exact nr⟩
def WQ:gV:=
 (.seq (.gQ (sq 1 [bo 1 33 0,.mv (.const (.slice none 0 0)),mb false])) (.seq (.gQ (sq 11 [.pF 11 54 6 []]++sq 4 [mv 11])) (.seq (.gQ (sq 12 [fa 1 1,ld 12,ln 13]++sq 5 [mv 14])) (.seq (.seq (.gQ (sq 6 [mi 0])) (.block 0 (.loop (.seq (.seq (.gQ (sq 15 [mv 6,mv 5,bn .lss 15 16])) (.cond (t0 17) .skip (.exit 0))) (.seq (.block 1 (.seq (.gQ (sq 7 [mi 0])) (.block 2 (.loop (.seq (.seq (.gQ (sq 20 [mv 7,fa 1 1,ld 21,mv 6,ix 2 22 23,fa 0 24,ld 25,ln 26,bn .lss 20 27])) (.cond (t0 28) .skip (.exit 2))) (.seq (.block 3 (.seq (.gQ (sq 8 [mi 0])) (.block 4 (.loop (.seq (.seq (.gQ (sq 31 [mv 8,mv 5,bn .lss 31 32])) (.cond (t0 33) .skip (.exit 4))) (.seq (.block 5 (.seq (.seq (.gQ (sq 36 [la 2 1,mv 6,mv 7,mv 8,cf 77 [36,37,38,39],nt 40])) (.cond (t0 41) (.exit 5) .skip)) (.seq (.gQ (sq 43 [la 2 1,mv 6,mv 7,mv 8,cf 78 [43,44,45,46]]++sq 42 [mv 47]++sq 48 [ex 42 0,ex 42 1]++sq 9 [.alloc 9 54 [.sl 0 (some true) [],.sl 0 (some true) [],.sl 0 (some true) [],.lit (.int .i64 0),.lit (.int .i64 0),.lit (.int .i64 0)]]++s0 (sr 6 9 48)++sq 10 [mv 49])) (.seq (.seq (.gQ (sq 50 [mv 10,nt 50,mv 51]++sg 52 false 53 [mv 4,ln 53,bi .eql 54 64]++sq 56 [po 52 55])) (.cond (t0 56) (.seq (.gQ (sq 57 [.pF 57 54 6 []]++sq 2 [mv 57,mb false])) .ret) .skip)) (.gQ (sq 58 [mv 4,la 6 9,.pF 60 54 6 [(t0 59)],ap 61 54 6 96 58 60]++sq 4 [mv 61])))))) (.gQ (sq 34 [mv 8,bi .add 34 1]++sq 8 [mv 35])))))))) (.gQ (sq 29 [mv 7,bi .add 29 1]++sq 7 [mv 30])))))))) (.gQ (sq 18 [mv 6,bi .add 18 1]++sq 6 [mv 19]))))))) (.seq (.gQ (sq 62 [mv 4]++sq 2 [mv 62,mb true])) .ret)))))
theorem YH:jV Tryz.prog 45 WQ 63 [.tmp 2,.tmp 3]:=mf Tryz.func45 Tryz.ntmps45
def jT(sys:gC)(over:Int)(at':Int):gM->Option (gM⊕(gM⊕(gM⊕(gy×Bool))))
 |(out_2,under)=>
  if(decide (under<(sys.2.length:Int)))=true then
   (ju sys over at' under).bind fun r=>
   if r=true then
    (mP sys over at' under).bind fun r_1=>
    if r_1.2=true then
     if((out_2.length:Int)==64)=true then
      Option.map Sum.inr (
       Option.map Sum.inr (
        Option.map Sum.inr (
         some ([],false))))
     else
      if(out_2.length+1)*96<=140737488355328 then
       some (.inl ((out_2++[r_1.1]),(IntKind.i64.wrap (under+1))))
      else none
    else
     Option.map Sum.inr (
      Option.map Sum.inr (
       Option.map Sum.inr (
        some ([],false))))
   else
    some (.inl (out_2,(IntKind.i64.wrap (under+1))))
  else
   Option.map Sum.inr (
    some (.inl (out_2,(IntKind.i64.wrap (at'+1)))))
def kY(sys:gC)(over:Int):gM->Option (gM⊕(gM⊕(gy×Bool)))
 |(out_1,at')=>
  if 0<=over/\over<(sys.2.length:Int)then
   if(decide (at'<(((sys.2.getD over.toNat default).1).length:Int)))=true then
    g_ (jT sys over at') (out_1,0)
   else
    Option.map Sum.inr (
     some (.inl (out_1,(IntKind.i64.wrap (over+1)))))
  else none
def mD(sys:gC):gM->Option (gM⊕(gy×Bool))
 |(out,over)=>
  if(decide (over<(sys.2.length:Int)))=true then
   g_ (kY sys over) (out,0)
  else
   Option.map Sum.inr (
    some (out,true))
def sV(sys:gC):Option (gy×Bool):=
 g_ (mD sys) ([],0)
instance OO{sys:gC}:iH (sV sys) fun rr=>oF Tryz.prog 45 [ia sys] [(gS 6 jz) rr.1,bD rr.2]:=⟨@fun rr h=>by
 delta sV at h;refine YH.pG (gO ?_);delta WQ;refine iE ?_;refine kT h [2,3,4,6,7,8,9,10,15,16,17,18,19,20,21,22,23,24,25,26,27,28,29,30,31,32,33,34,35,36,37,38,39,40,41,42,43,44,45,46,47,48,49,50,51,52,53,54,55,56,57,58,59,60,61] (fun pp=>[(4,.own 6 11 (List.map jz pp.1)),(6,.d (iD pp.2))]) (fun pp=>[(1,.obj 33 [.d (gS 1 iD sys.1),.d (gS 2 gP sys.2)]),(11,.tok 54 6 pp.1.length)]) ?_;rintro⟨out,over⟩ t1 h hb1;unfold mD at h;try dsimp only at h
 refine gO (iE ?_);refine iT h fun hc1 h=>?_
 refine kT h [2,3,4,7,8,9,10,20,21,22,23,24,25,26,27,28,29,30,31,32,33,34,35,36,37,38,39,40,41,42,43,44,45,46,47,48,49,50,51,52,53,54,55,56,57,58,59,60,61] (fun pp=>[(4,.own 6 11 (List.map jz pp.1)),(7,.d (iD pp.2))]) (fun pp=>[(1,.obj 33 [.d (gS 1 iD sys.1),.d (gS 2 gP sys.2)]),(11,.tok 54 6 pp.1.length)]) ?_;rintro⟨out_1,at'⟩ t2 h hb2;unfold kY at h;try dsimp only at h
 refine gO (iE ?_);refine jG h fun hp h=>?_
 refine iT h fun hc2 h=>?_
 refine kT h [2,3,4,8,9,10,31,32,33,34,35,36,37,38,39,40,41,42,43,44,45,46,47,48,49,50,51,52,53,54,55,56,57,58,59,60,61] (fun pp=>[(4,.own 6 11 (List.map jz pp.1)),(8,.d (iD pp.2))]) (fun pp=>[(1,.obj 33 [.d (gS 1 iD sys.1),.d (gS 2 gP sys.2)]),(11,.tok 54 6 pp.1.length)]) ?_;rintro⟨out_2,under⟩ t3 h hb3;unfold jT at h;try dsimp only at h
 refine gO (iE ?_);refine iT h fun hc3 h=>?_
 refine rC h fun r hr h=>?_
 refine iT h fun hc4 h=>?_
 refine QI h fun r_1 hr_1 h=>?_
 refine iT h fun hc5 h=>?_
 refine iF h fun hc6 h=>?_
 refine jG h fun hp h=>?_
 cases h;refine⟨_,rfl,?_⟩;refine(ij.drop 9 gN).trans ?_;refine(ij.drop 60 gN).trans ?_;exact wk⟩
end Go.Proofs.YtjgbnaihpicpgaaGreatDoor
