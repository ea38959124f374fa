/- A part of the proof about FnAcNormal and about FnAcSteps (A4, A5). -/
import Derived.Test.YthdnkoejpdcnpaaGreatNaf
set_option linter.all false
noncomputable section
namespace Go.Proofs.YthdnkoejpdcnpaaGreat
open Go kI
attribute [local irreducible] sO uf uc lu kf pG iV xm xQ wz xP wu pY kr lq xO ia jN
set_option maxHeartbeats 4000000
set_option maxRecDepth 4000
def SP:gH:=
 (.seq (.gD (sq 3 [bo 3 27 0]++sq 6 [.mv (.const (.slice none 0 0))])) (.seq (.gD (sq 7 [la 1 3,mv 1,mv 2,.iw 110 [(t0 7),(t0 8),(t0 9),(i0 0)]]++sq 6 [mv 10])) .ret))
theorem Wy:jT Tryz.prog 137 SP 11 [.tmp 6]:=mf Tryz.func137 Tryz.ntmps137
def ot(sig:fP)(f:Int)(t:fP):Option fQ:=
 (kQ sig f t 0).bind fun r=>
 some r
instance Ms{sig:fP}{f:Int}{t:fP}:gW (ot sig f t) fun rr=>iC Tryz.prog 137 [gQ sig,iD f,(gE 1 iD) t] ((gE 1 (gE 1 iD)) rr):=⟨@fun rr h=>by
 delta ot at h;refine Wy.iA (gC ?_);delta SP;refine g_ ?_;exact mm⟩
def SO:gH:=
 (.seq (.gD (sq 7 [bo 7 27 0]++sq 14 [.mv (.const (.slice none 0 0))])) (.seq (.seq (.gD (sq 26 [mv 3,ln 26,bi .eql 27 0])) (.cond (t0 28) (.seq (.seq (.gD (sq 29 [mv 4,ln 29,bi .eql 30 0])) (.cond (t0 31) (.seq (.gD (sq 32 [mv 6,mv 5,cf 83 [32,33]]++sq 14 [mv 34])) .ret) .skip)) (.seq (.gD (sq 35 [mv 6]++sq 14 [mv 35])) .ret)) .skip)) (.seq (.seq (.gD (sq 36 [mv 4,ln 36,mv 3,ln 38,bn .lss 37 39])) (.cond (t0 40) (.seq (.gD (sq 41 [mv 6]++sq 14 [mv 41])) .ret) .skip)) (.seq (.gD (sq 42 [mv 3,.tD 1 (t0 42) (i0 0),ld 43]++sq 15 [mv 44])) (.seq (.seq (.gD (sq 45 [mv 15,.tD 1 (t0 45) (i0 0),ld 46,bi .geq 47 0])) (.cond (t0 48) (.seq (.seq (.gD (sq 16 [mi 0])) (.block 0 (.loop (.seq (.seq (.gD (sq 49 [mv 16,mv 4,ln 50,bn .lss 49 51])) (.cond (t0 52) .skip (.exit 0))) (.seq (.block 1 (.seq (.seq (.draw (sq 55 [mv 16,bi .gtr 55 0,mv 56]++sg 57 true 58 [mv 4,mv 16,ix 1 58 59,ld 60,mv 4,mv 16,bi .sub 63 1,ix 1 62 64,ld 65,cf 48 [61,66]]++sq 68 [pa 57 67]) [[],[0],[1],[2],[2],[3,4,2],[5,2],[2],[2],[8,2],[7,9,2],[10,2],[6,11,2,2],[2,12]]) (.cond (t0 68) (.exit 1) .skip)) (.seq (.draw (sq 69 [la 1 7,mv 1,mv 15,mv 4,mv 16,ix 1 72 73,ld 74,mv 5,cf 82 [69,70,71,75,76]]++sq 17 [mv 77]) [[],[],[],[],[],[3,4],[5],[],[0,1,2,6,7],[8,8,0,1,2,3,4,5,6,7,8]]) (.seq (.gD (sq 18 [mi 0])) (.block 2 (.loop (.seq (.seq (.gD (sq 78 [mv 18,mv 17,ln 79,bn .lss 78 80])) (.cond (t0 81) .skip (.exit 2))) (.seq (.block 3 (.draw (sq 84 [la 1 7,mv 1,mv 2,mv 3,.slc (t0 87) 1 (some (i0 1)) none none,mv 4,mv 16,cf 173 [89,90],mv 17,mv 18,ix 1 92 93,ld 94,mv 6,cf 136 [84,85,86,88,91,95,96]]++sq 6 [mv 97]) [[],[],[],[],[3],[],[],[5,6],[],[],[8,9],[10],[],[0,1,2,4,7,11,12,7],[13,13,0,1,2,3,4,5,6,7,8,9,10,11,12,13]])) (.gD (sq 82 [mv 18,bi .add 82 1]++sq 18 [mv 83])))))))))) (.gD (sq 53 [mv 16,bi .add 53 1]++sq 16 [mv 54]))))))) (.seq (.gD (sq 98 [mv 6]++sq 14 [mv 98])) .ret)) .skip)) (.seq (.gD (sq 99 [mv 15,.tD 1 (t0 99) (i0 0),ld 100,.bin .sub (i0 (-1)) (t0 101)]++sq 19 [mv 102])) (.seq (.seq (.gD (sq 103 [mv 5,mv 19,ix 1 103 104,ld 105,ln 106,bi .gtr 107 0])) (.cond (t0 108) (.seq (.draw (sq 110 [mv 4,la 1 7,mv 2,mv 5,mv 19,ix 1 113 114,ld 115,cf 137 [111,112,116],cf 174 [110,117]]++sq 109 [mv 118]++sq 119 [ex 109 0,ex 109 1]++sq 20 [mv 119,mv 120]) [[],[],[],[],[],[3,4],[5],[1,2,6],[0,7,7],[8],[9],[9],[10,8,0,1,2,3,4,5,6,7,8,9,10],[11,12,0,1,2,3,4,5,6,7,8,9,10,11,12]]) (.seq (.seq (.gD (sq 121 [mv 21])) (.cond (t0 121) (.draw (sq 122 [la 1 7,mv 1,mv 2,mv 3,.slc (t0 125) 1 (some (i0 1)) none none,mv 20,mv 5,mv 6,cf 136 [122,123,124,126,127,128,129]]++sq 6 [mv 130]) [[],[],[],[],[3],[],[],[],[0,1,2,4,5,6,7],[8,8,0,1,2,3,4,5,6,7,8]]) .skip)) (.seq (.gD (sq 131 [mv 6]++sq 14 [mv 131])) .ret))) .skip)) (.seq (.seq (.gD (sq 22 [mi 1])) (.block 4 (.loop (.seq (.seq (.gD (sq 132 [mv 22,mv 4,ln 133,.conv .u64 (t0 134),.bin .shl (i0 1) (t0 135),bn .lss 132 136])) (.cond (t0 137) .skip (.exit 4))) (.seq (.block 5 (.seq (.gD (sq 140 [.lQ 140 22 1 []]++sq 23 [mv 140])) (.seq (.gD (sq 141 [.lQ 141 22 1 []]++sq 24 [mv 141])) (.seq (.seq (.gD (sq 25 [mi 0])) (.block 6 (.loop (.seq (.seq (.gD (sq 142 [mv 25,mv 4,ln 143,bn .lss 142 144])) (.cond (t0 145) .skip (.exit 6))) (.seq (.block 7 (.seq (.gD (sq 148 [mv 22,mv 25,.conv .u64 (t0 149),bn .shr 148 150,bi .and 151 1,bi .eql 152 1])) (.cond (t0 153) (.gD (sq 154 [mv 23,mv 4,mv 25,ix 1 155 156,ld 157,.lQ 159 22 1 [(t0 158)],ap 160 22 1 24 154 159]++sq 23 [mv 160])) (.gD (sq 161 [mv 24,mv 4,mv 25,ix 1 162 163,ld 164,.lQ 166 22 1 [(t0 165)],ap 167 22 1 24 161 166]++sq 24 [mv 167]))))) (.gD (sq 146 [mv 25,bi .add 146 1]++sq 25 [mv 147]))))))) (.draw (sq 168 [la 1 7,mv 1,mv 2,mv 3,.slc (t0 171) 1 (some (i0 1)) none none,mv 24,mv 5,mv 19,mv 2,mv 23,cf 108 [176,177],cf 135 [174,175,178],mv 6,cf 136 [168,169,170,172,173,179,180]]++sq 6 [mv 181]) [[],[],[],[],[3],[],[],[],[],[],[8,9],[6,7,10,10],[],[0,1,2,4,5,11,12,11],[13,13,0,1,2,3,4,5,6,7,8,9,10,11,12,13]]))))) (.gD (sq 138 [mv 22,bi .add 138 1]++sq 22 [mv 139]))))))) (.seq (.gD (sq 182 [mv 6]++sq 14 [mv 182])) .ret)))))))))
theorem Wx:jT Tryz.prog 136 SO 183 [.tmp 14]:=mf Tryz.func136 Tryz.ntmps136
def lG(rec:fP->fP->fP->fP->fQ->Option fW)(recS:fP->fP->Int->fQ->fQ->fQ->fW->Option fW)(sig:fP)(ac:fP)(f:Int)(ps:fQ)(left:fQ)(i:Int)(r_2:fW):gn->Option (gn⊕(gn⊕fW))
 |(out_2,k)=>
  if(decide (k<(r_2.length:Int)))=true then
   if 0<=1/\1<=(ps.length:Int)then
    (nU left i).bind fun r_3=>
    if 0<=k/\k<(r_2.length:Int)then
     (recS sig ac f (ps.drop 1) r_3 (r_2.getD k.toNat default) out_2).bind fun r_4=>
     some (.inl (r_4,(IntKind.i64.wrap (k+1))))
    else none
   else none
  else
   Option.map Sum.inr (
    some (.inl (out_2,(IntKind.i64.wrap (i+1)))))
def sH(rec:fP->fP->fP->fP->fQ->Option fW)(recS:fP->fP->Int->fQ->fQ->fQ->fW->Option fW)(sig:fP)(ac:fP)(f:Int)(ps:fQ)(left:fQ)(i:Int)(r_5:fW):gn->Option (gn⊕(gn⊕fW))
 |(out_3,k_1)=>
  if(decide (k_1<(r_5.length:Int)))=true then
   if 0<=1/\1<=(ps.length:Int)then
    (nU left i).bind fun r_6=>
    if 0<=k_1/\k_1<(r_5.length:Int)then
     (recS sig ac f (ps.drop 1) r_6 (r_5.getD k_1.toNat default) out_3).bind fun r_7=>
     some (.inl (r_7,(IntKind.i64.wrap (k_1+1))))
    else none
   else none
  else
   Option.map Sum.inr (
    some (.inl (out_3,(IntKind.i64.wrap (i+1)))))
def pS(rec:fP->fP->fP->fP->fQ->Option fW)(recS:fP->fP->Int->fQ->fQ->fQ->fW->Option fW)(sig:fP)(ac:fP)(f:Int)(ps:fQ)(left:fQ)(given:fQ):gn->Option (gn⊕fW)
 |(out_1,i)=>
  if(decide (i<(left.length:Int)))=true then
   if(decide (0<i))=true then
    if 0<=i/\i<(left.length:Int)then
     if 0<=(IntKind.i64.wrap (i-1))/\(IntKind.i64.wrap (i-1))<(left.length:Int)then
      (jM (left.getD i.toNat default) (left.getD (IntKind.i64.wrap (i-1)).toNat default)).bind fun r_1=>
      if r_1=true then
       some (.inl (out_1,(IntKind.i64.wrap (i+1))))
      else
       if 0<=i/\i<(left.length:Int)then
        (rec sig ac (ps.getD 0 default) (left.getD i.toNat default) given).bind fun r_2=>
        gK (lG rec recS sig ac f ps left i r_2) (out_1,0)
       else none
     else none
    else none
   else
    if 0<=i/\i<(left.length:Int)then
     (rec sig ac (ps.getD 0 default) (left.getD i.toNat default) given).bind fun r_5=>
     gK (sH rec recS sig ac f ps left i r_5) (out_1,0)
    else none
  else
   Option.map Sum.inr (
    some out_1)
def pU(rec:fP->fP->fP->fP->fQ->Option fW)(recS:fP->fP->Int->fQ->fQ->fQ->fW->Option fW)(sig:fP)(ac:fP)(f:Int)(ps:fQ)(left:fQ)(given:fQ)(out_4:fW)(bits:Int):gA->Option (gA⊕(gn⊕fW))
 |(some',rest,i_1)=>
  if(decide (i_1<(left.length:Int)))=true then
   if 0<=(IntKind.u64.wrap i_1)then
    if((zW .i64 (Bn .i64 bits (IntKind.u64.wrap i_1)) 1)==1)=true then
     if 0<=i_1/\i_1<(left.length:Int)then
      if(some'.length+1)*24<=140737488355328 then
       some (.inl ((some'++[(left.getD i_1.toNat default)]),rest,(IntKind.i64.wrap (i_1+1))))
      else none
     else none
    else
     if 0<=i_1/\i_1<(left.length:Int)then
      if(rest.length+1)*24<=140737488355328 then
       some (.inl (some',(rest++[(left.getD i_1.toNat default)]),(IntKind.i64.wrap (i_1+1))))
      else none
     else none
   else none
  else
   Option.map Sum.inr (
    if 0<=1/\1<=(ps.length:Int)then
     (qb f some').bind fun r_11=>
     (oV given (IntKind.i64.wrap ((-1)-((ps.getD 0 default).getD 0 default))) r_11).bind fun r_12=>
     (recS sig ac f (ps.drop 1) rest r_12 out_4).bind fun r_13=>
     some (.inl (r_13,(IntKind.i64.wrap (bits+1))))
    else none)
def pT(rec:fP->fP->fP->fP->fQ->Option fW)(recS:fP->fP->Int->fQ->fQ->fQ->fW->Option fW)(sig:fP)(ac:fP)(f:Int)(ps:fQ)(left:fQ)(given:fQ):gn->Option (gn⊕fW)
 |(out_4,bits)=>
  if 0<=(IntKind.u64.wrap (left.length:Int))then
   if(decide (bits<(HB .i64 1 (IntKind.u64.wrap (left.length:Int)))))=true then
    gK (pU rec recS sig ac f ps left given out_4 bits) ([],[],0)
   else
    Option.map Sum.inr (
     some out_4)
  else none
def jy(rec:fP->fP->fP->fP->fQ->Option fW):Nat->fP->fP->Int->fQ->fQ->fQ->fW->Option fW
 |0,_,_,_,_,_,_,_=>none
 |fu+1,sig,ac,f,ps,left,given,out=>
  if((ps.length:Int)==0)=true then
   if((left.length:Int)==0)=true then
    (nH out given).bind fun r=>
    some r
   else
    some out
  else
   if(decide ((left.length:Int)<(ps.length:Int)))=true then
    some out
   else
    if 0<=0/\0<(ps.length:Int)then
     if 0<=0/\0<((ps.getD 0 default).length:Int)then
      if(decide (0<=((ps.getD 0 default).getD 0 default)))=true then
       gK (pS rec (jy rec fu) sig ac f ps left given) (out,0)
      else
       if 0<=0/\0<((ps.getD 0 default).length:Int)then
        if 0<=(IntKind.i64.wrap ((-1)-((ps.getD 0 default).getD 0 default)))/\(IntKind.i64.wrap ((-1)-((ps.getD 0 default).getD 0 default)))<(given.length:Int)then
         if(decide (0<((given.getD (IntKind.i64.wrap ((-1)-((ps.getD 0 default).getD 0 default))).toNat default).length:Int)))=true then
          if 0<=(IntKind.i64.wrap ((-1)-((ps.getD 0 default).getD 0 default)))/\(IntKind.i64.wrap ((-1)-((ps.getD 0 default).getD 0 default)))<(given.length:Int)then
           (ot sig f (given.getD (IntKind.i64.wrap ((-1)-((ps.getD 0 default).getD 0 default))).toNat default)).bind fun r_8=>
           (qC left r_8).bind fun r_9=>
           if r_9.2=true then
            if 0<=1/\1<=(ps.length:Int)then
             (jy rec fu sig ac f (ps.drop 1) r_9.1 given out).bind fun r_10=>
             some r_10
            else none
           else
            some out
          else none
         else
          gK (pT rec (jy rec fu) sig ac f ps left given) (out,1)
        else none
       else none
     else none
    else none
def rD(rec:fP->fP->fP->fP->fQ->Option fW)(sig:fP)(ac:fP)(f:Int)(ps:fQ)(left:fQ)(given:fQ)(out:fW):Option fW:=Ba fun fu=>jy rec fu sig ac f ps left given out
theorem yy{rec:fP->fP->fP->fP->fQ->Option fW}(hW:∀{sig:fP}{ac:fP}{p:fP}{t:fP}{given:fQ},gW (rec sig ac p t given) fun rr=>iC Tryz.prog 82 [gQ sig,(gE 1 iD) ac,(gE 1 iD) p,(gE 1 iD) t,(gE 1 (gE 1 iD)) given] ((gE 1 (gE 1 (gE 1 iD))) rr)):∀{fu:Nat}{sig:fP}{ac:fP}{f:Int}{ps:fQ}{left:fQ}{given:fQ}{out:fW}{rr:fW}(h:jy rec fu sig ac f ps left given out=some rr),iC Tryz.prog 136 [gQ sig,(gE 1 iD) ac,iD f,(gE 1 (gE 1 iD)) ps,(gE 1 (gE 1 iD)) left,(gE 1 (gE 1 iD)) given,(gE 1 (gE 1 (gE 1 iD))) out] ((gE 1 (gE 1 (gE 1 iD))) rr)
 |0,_,_,_,_,_,_,_,_,h=>by cases h
 |fu+1,sig,ac,f,ps,left,given,out,rr,h=>by
  have ih:∀{sig:fP}{ac:fP}{f:Int}{ps:fQ}{left:fQ}{given:fQ}{out:fW},gW (jy rec fu sig ac f ps left given out) fun rr=>iC Tryz.prog 136 [gQ sig,(gE 1 iD) ac,iD f,(gE 1 (gE 1 iD)) ps,(gE 1 (gE 1 iD)) left,(gE 1 (gE 1 iD)) given,(gE 1 (gE 1 (gE 1 iD))) out] ((gE 1 (gE 1 (gE 1 iD))) rr):=⟨fun h=>yy hW h⟩
  have ihW:∀{sig:fP}{ac:fP}{p:fP}{t:fP}{given:fQ},gW (rec sig ac p t given) fun rr=>iC Tryz.prog 82 [gQ sig,(gE 1 iD) ac,(gE 1 iD) p,(gE 1 iD) t,(gE 1 (gE 1 iD)) given] ((gE 1 (gE 1 (gE 1 iD))) rr):=hW
  unfold jy at h;refine Wx.iA (gC ?_);delta SO;refine g_ ?_;refine iF h fun hc h=>?_
  refine iF h fun hc h=>?_
  refine iU h fun hp h=>?_
  refine iU h fun hp h=>?_
  refine it h (fun hc h=>?_) fun hc h=>?_
  ·refine jk h [6,16,17,18,49,50,51,52,53,54,55,56,57,58,59,60,61,62,63,64,65,66,67,68,69,70,71,72,73,74,75,76,77,78,79,80,81,82,83,84,85,86,87,88,89,90,91,92,93,94,95,96,97] (fun pp=>[(6,.d (gE 1 (gE 1 (gE 1 iD)) pp.1)),(16,.d (iD pp.2))]) (fun pp=>[(7,.obj 27 [.d (gE 1 iD sig)])]) ?_;rintro⟨out_1,i⟩ t1 h hb1;unfold pS at h;try dsimp only at h
   refine gC (g_ ?_);refine iT h fun hc h=>?_
   refine it h (fun hc h=>?_) fun hc h=>?_
   ·refine iU h fun hp h=>?_
    refine iU h fun hp h=>?_
    refine dC h fun r_1 hr_1 h=>?_
    refine i_ (by kernel_rfl) (g_ ?_);refine iF h fun hc h=>?_
    refine iU h fun hp h=>?_
    refine dC h fun r_2 hr_2 h=>?_
    refine i_ (by kernel_rfl) (g_ ?_);refine jk h [6,18,78,79,80,81,82,83,84,85,86,87,88,89,90,91,92,93,94,95,96,97] (fun pp=>[(6,.d (gE 1 (gE 1 (gE 1 iD)) pp.1)),(18,.d (iD pp.2))]) (fun pp=>[(7,.obj 27 [.d (gE 1 iD sig)])]) ?_;rintro⟨out_2,k⟩ t2 h hb2;unfold lG at h;try dsimp only at h
    refine gC (g_ ?_);exact mm
   refine i_ (by kernel_rfl) (g_ ?_);refine iU h fun hp h=>?_
   refine dC h fun r_5 hr_5 h=>?_
   refine i_ (by kernel_rfl) (g_ ?_);refine jk h [6,18,78,79,80,81,82,83,84,85,86,87,88,89,90,91,92,93,94,95,96,97] (fun pp=>[(6,.d (gE 1 (gE 1 (gE 1 iD)) pp.1)),(18,.d (iD pp.2))]) (fun pp=>[(7,.obj 27 [.d (gE 1 iD sig)])]) ?_;rintro⟨out_3,k_1⟩ t2 h hb2;unfold sH at h;try dsimp only at h
   refine gC (g_ ?_);exact mm
  refine iU h fun hp h=>?_
  refine iU h fun hp h=>?_
  refine iF h fun hc h=>?_
  refine jk h [6,22,23,24,25,132,133,134,135,136,137,138,139,140,141,142,143,144,145,146,147,148,149,150,151,152,153,154,155,156,157,158,159,160,161,162,163,164,165,166,167,168,169,170,171,172,173,174,175,176,177,178,179,180,181] (fun pp=>[(6,.d (gE 1 (gE 1 (gE 1 iD)) pp.1)),(22,.d (iD pp.2))]) (fun pp=>[(7,.obj 27 [.d (gE 1 iD sig)])]) ?_;rintro⟨out_4,bits⟩ t1 h hb1;unfold pT at h;try dsimp only at h
  refine gC (g_ ?_);refine iU h fun hp h=>?_
  refine iT h fun hc h=>?_
  refine jk h [23,24,25,142,143,144,145,146,147,148,149,150,151,152,153,154,155,156,157,158,159,160,161,162,163,164,165,166,167] (fun pp=>[(23,.own 1 140 (List.map (gE 1 iD) pp.1)),(24,.own 1 141 (List.map (gE 1 iD) pp.2.1)),(25,.d (iD pp.2.2))]) (fun pp=>[(7,.obj 27 [.d (gE 1 iD sig)]),(140,.tok 22 1 pp.1.length),(141,.tok 22 1 pp.2.1.length)]) ?_;rintro⟨some',rest,i_1⟩ t2 h hb2;unfold pU at h;try dsimp only at h
  refine gC (g_ ?_);refine it h (fun hc h=>?_) fun hc h=>?_
  ·refine iU h fun hp h=>?_
   refine it h (fun hc h=>?_) fun hc h=>?_
   ·refine iU h fun hp h=>?_
    refine iU h fun hp h=>?_
    cases h;refine⟨_,rfl,?_⟩;refine(gT.drop 159 gB).trans ?_;exact wk
   refine iU h fun hp h=>?_
   refine iU h fun hp h=>?_
   cases h;refine⟨_,rfl,?_⟩;refine(gT.drop 166 gB).trans ?_;exact wk
  replace h:=gY h hb2;refine iU h fun hp h=>?_
  refine dC h fun r_11 hr_11 h=>?_
  refine dC h fun r_12 hr_12 h=>?_
  refine dC h fun r_13 hr_13 h=>?_
  refine i_ (by kernel_rfl) (g_ ?_);cases h;refine⟨_,rfl,?_⟩;refine(gT.drop 140 gB).trans ?_;refine(gT.drop 141 gB).trans ?_;exact wk
instance HZ{rec:fP->fP->fP->fP->fQ->Option fW}[ihW:∀{sig:fP}{ac:fP}{p:fP}{t:fP}{given:fQ},gW (rec sig ac p t given) fun rr=>iC Tryz.prog 82 [gQ sig,(gE 1 iD) ac,(gE 1 iD) p,(gE 1 iD) t,(gE 1 (gE 1 iD)) given] ((gE 1 (gE 1 (gE 1 iD))) rr)]{sig:fP}{ac:fP}{f:Int}{ps:fQ}{left:fQ}{given:fQ}{out:fW}:gW (rD rec sig ac f ps left given out) fun rr=>iC Tryz.prog 136 [gQ sig,(gE 1 iD) ac,iD f,(gE 1 (gE 1 iD)) ps,(gE 1 (gE 1 iD)) left,(gE 1 (gE 1 iD)) given,(gE 1 (gE 1 (gE 1 iD))) out] ((gE 1 (gE 1 (gE 1 iD))) rr):=⟨fun h=>yy ihW (pq h).choose_spec⟩
def X5:gH:=
 (.seq (.gD (sq 5 [bo 5 27 0]++sq 10 [.mv (.const (.slice none 0 0))])) (.seq (.gD (sq 20 [.lQ 20 45 1 []]++sq 11 [mv 20])) (.seq (.seq (.gD (sq 21 [mv 2,.tD 1 (t0 21) (i0 0),ld 22,bi .lss 23 0])) (.cond (t0 24) (.seq (.gD (sq 25 [mv 2,.tD 1 (t0 25) (i0 0),ld 26,.bin .sub (i0 (-1)) (t0 27)]++sq 12 [mv 28])) (.seq (.seq (.gD (sq 29 [mv 4,mv 12,ix 1 29 30,ld 31,ln 32,bi .eql 33 0])) (.cond (t0 34) (.seq (.gD (sq 35 [mv 11,mv 4,mv 12,mv 3,cf 135 [36,37,38],.lQ 40 45 1 [(t0 39)],ap 41 45 1 24 35 40]++sq 10 [mv 41])) .ret) .skip)) (.seq (.seq (.gD (sq 42 [mv 4,mv 12,ix 1 42 43,ld 44,mv 3,cf 48 [45,46]])) (.cond (t0 47) (.seq (.gD (sq 48 [mv 11,mv 4,.lQ 50 45 1 [(t0 49)],ap 51 45 1 24 48 50]++sq 10 [mv 51])) .ret) .skip)) (.seq (.gD (sq 52 [mv 11]++sq 10 [mv 52])) .ret)))) .skip)) (.seq (.seq (.draw (sq 53 [mv 2,.tD 1 (t0 53) (i0 0),ld 54,mv 3,.tD 1 (t0 56) (i0 0),ld 57,bn .neq 55 58]) [[],[0],[1],[],[3],[4],[2,5]]) (.cond (t0 59) (.seq (.gD (sq 60 [mv 11]++sq 10 [mv 60])) .ret) .skip)) (.seq (.seq (.gD (sq 61 [mv 1,mv 2,.tD 1 (t0 62) (i0 0),ld 63,cf 107 [61,64]])) (.cond (t0 65) (.seq (.draw (sq 66 [la 1 5,mv 1,mv 2,.tD 1 (t0 68) (i0 0),ld 69,la 1 5,mv 2,.tD 1 (t0 72) (i0 0),ld 73,mv 2,.iw 110 [(t0 71),(t0 74),(t0 75),(i0 0)],la 1 5,mv 2,.tD 1 (t0 78) (i0 0),ld 79,mv 3,cf 137 [77,80,81],mv 4,mv 11,cf 136 [66,67,70,76,82,83,84]]++sq 10 [mv 85]) [[],[],[],[2],[3],[],[],[6],[7],[],[5,8,9],[],[],[12],[13],[],[11,14,15,10],[],[],[0,1,4,10,16,17,18,16],[19,19,0,1,2,3,4,5,6,7,8,9,10,11,12,13,14,15,16,17,18,19]]) .ret) .skip)) (.seq (.gD (sq 86 [mv 11,mv 4,.lQ 88 45 1 [(t0 87)],ap 89 45 1 24 86 88]++sq 11 [mv 89])) (.seq (.gD (sq 90 [la 1 5,mv 2,.iw 111 [(t0 90),(t0 91),(i0 0)]]++sq 13 [mv 92])) (.seq (.gD (sq 93 [la 1 5,mv 3,.iw 111 [(t0 93),(t0 94),(i0 0)]]++sq 14 [mv 95])) (.seq (.seq (.gD (sq 15 [mi 0])) (.block 0 (.loop (.seq (.seq (.gD (sq 96 [mv 15,mv 13,ln 97,bn .lss 96 98])) (.cond (t0 99) .skip (.exit 0))) (.seq (.block 1 (.seq (.gD (sq 102 [.lQ 102 45 1 []]++sq 16 [mv 102])) (.seq (.seq (.gD (sq 17 [mi 0])) (.block 2 (.loop (.seq (.seq (.gD (sq 103 [mv 17,mv 11,ln 104,bn .lss 103 105])) (.cond (t0 106) .skip (.exit 2))) (.seq (.block 3 (.seq (.draw (sq 109 [la 1 5,mv 1,la 1 5,mv 2,mv 13,mv 15,ix 1 113 114,ld 115,cf 112 [111,112,116],la 1 5,mv 3,mv 14,mv 15,ix 1 120 121,ld 122,cf 112 [118,119,123],mv 11,mv 17,ix 1 125 126,ld 127,cf 82 [109,110,117,124,128]]++sq 18 [mv 129]) [[],[],[],[],[],[],[4,5],[6],[2,3,7],[],[],[],[],[11,12],[13],[9,10,14,8],[],[],[16,17],[18],[0,1,8,15,19,15],[20,20,0,1,2,3,4,5,6,7,8,9,10,11,12,13,14,15,16,17,18,19,20]]) (.seq (.gD (sq 19 [mi 0])) (.block 4 (.loop (.seq (.seq (.gD (sq 130 [mv 19,mv 18,ln 131,bn .lss 130 132])) (.cond (t0 133) .skip (.exit 4))) (.seq (.block 5 (.gD (sq 136 [mv 16,mv 18,mv 19,ix 1 137 138,ld 139,cf 83 [136,140]]++sq 16 [mv 141]))) (.gD (sq 134 [mv 19,bi .add 134 1]++sq 19 [mv 135]))))))))) (.gD (sq 107 [mv 17,bi .add 107 1]++sq 17 [mv 108]))))))) (.gD (sq 142 [mv 16]++sq 11 [mv 142]))))) (.gD (sq 100 [mv 15,bi .add 100 1]++sq 15 [mv 101]))))))) (.seq (.gD (sq 143 [mv 11]++sq 10 [mv 143])) .ret))))))))))
theorem Zx:jT Tryz.prog 82 X5 144 [.tmp 10]:=mf Tryz.func82 Tryz.ntmps82
def oC(k:Int)(r_10:fW):gn->Option (gn⊕(gn⊕(gn⊕fW)))
 |(next'_1,x)=>
  if(decide (x<(r_10.length:Int)))=true then
   if 0<=x/\x<(r_10.length:Int)then
    (nH next'_1 (r_10.getD x.toNat default)).bind fun r_11=>
    some (.inl (r_11,(IntKind.i64.wrap (x+1))))
   else none
  else
   Option.map Sum.inr (
    some (.inl (next'_1,(IntKind.i64.wrap (k+1)))))
def qq(rec:fP->fP->fP->fP->fQ->Option fW)(sig:fP)(ac:fP)(p:fP)(t:fP)(r_6:fP)(r_7:fP)(out:fW)(i:Int):gn->Option (gn⊕(gn⊕fW))
 |(next',k)=>
  if(decide (k<(out.length:Int)))=true then
   if 0<=i/\i<(r_6.length:Int)then
    (jX sig p (r_6.getD i.toNat default)).bind fun r_8=>
    if 0<=i/\i<(r_7.length:Int)then
     (jX sig t (r_7.getD i.toNat default)).bind fun r_9=>
     if 0<=k/\k<(out.length:Int)then
      (rec sig ac r_8 r_9 (out.getD k.toNat default)).bind fun r_10=>
      gK (oC k r_10) (next',0)
     else none
    else none
   else none
  else
   Option.map Sum.inr (
    some (.inl (next',(IntKind.i64.wrap (i+1)))))
def tL(rec:fP->fP->fP->fP->fQ->Option fW)(sig:fP)(ac:fP)(p:fP)(t:fP)(r_6:fP)(r_7:fP):gn->Option (gn⊕fW)
 |(out,i)=>
  if(decide (i<(r_6.length:Int)))=true then
   gK (qq rec sig ac p t r_6 r_7 out i) ([],0)
  else
   Option.map Sum.inr (
    some out)
def me:Nat->fP->fP->fP->fP->fQ->Option fW
 |0,_,_,_,_,_=>none
 |fu+1,sig,ac,p,t,given=>
  if 0<=0/\0<(p.length:Int)then
   if(decide ((p.getD 0 default)<0))=true then
    if 0<=0/\0<(p.length:Int)then
     if 0<=(IntKind.i64.wrap ((-1)-(p.getD 0 default)))/\(IntKind.i64.wrap ((-1)-(p.getD 0 default)))<(given.length:Int)then
      if(((given.getD (IntKind.i64.wrap ((-1)-(p.getD 0 default))).toNat default).length:Int)==0)=true then
       (oV given (IntKind.i64.wrap ((-1)-(p.getD 0 default))) t).bind fun r=>
       if(0+1)*24<=140737488355328 then
        some [r]
       else none
      else
       if 0<=(IntKind.i64.wrap ((-1)-(p.getD 0 default)))/\(IntKind.i64.wrap ((-1)-(p.getD 0 default)))<(given.length:Int)then
        (jM (given.getD (IntKind.i64.wrap ((-1)-(p.getD 0 default))).toNat default) t).bind fun r_1=>
        if r_1=true then
         if(0+1)*24<=140737488355328 then
          some [given]
         else none
        else
         some []
       else none
     else none
    else none
   else
    if 0<=0/\0<(p.length:Int)then
     if 0<=0/\0<(t.length:Int)then
      if((p.getD 0 default) != (t.getD 0 default))=true then
       some []
      else
       if 0<=0/\0<(p.length:Int)then
        (kK ac (p.getD 0 default)).bind fun r_2=>
        if r_2=true then
         if 0<=0/\0<(p.length:Int)then
          if 0<=0/\0<(p.length:Int)then
           (kQ sig (p.getD 0 default) p 0).bind fun r_3=>
           if 0<=0/\0<(p.length:Int)then
            (ot sig (p.getD 0 default) t).bind fun r_4=>
            (rD (me fu) sig ac (p.getD 0 default) r_3 r_4 given []).bind fun r_5=>
            some r_5
           else none
          else none
         else none
        else
         if(0+1)*24<=140737488355328 then
          (mJ sig p 0).bind fun r_6=>
          (mJ sig t 0).bind fun r_7=>
          gK (tL (me fu) sig ac p t r_6 r_7) ([given],0)
         else none
       else none
     else none
    else none
  else none
def pV(sig:fP)(ac:fP)(p:fP)(t:fP)(given:fQ):Option fW:=Ba fun fu=>me fu sig ac p t given
theorem yO:∀{fu:Nat}{sig:fP}{ac:fP}{p:fP}{t:fP}{given:fQ}{rr:fW}(h:me fu sig ac p t given=some rr),iC Tryz.prog 82 [gQ sig,(gE 1 iD) ac,(gE 1 iD) p,(gE 1 iD) t,(gE 1 (gE 1 iD)) given] ((gE 1 (gE 1 (gE 1 iD))) rr)
 |0,_,_,_,_,_,_,h=>by cases h
 |fu+1,sig,ac,p,t,given,rr,h=>by
  have ih:∀{sig:fP}{ac:fP}{p:fP}{t:fP}{given:fQ},gW (me fu sig ac p t given) fun rr=>iC Tryz.prog 82 [gQ sig,(gE 1 iD) ac,(gE 1 iD) p,(gE 1 iD) t,(gE 1 (gE 1 iD)) given] ((gE 1 (gE 1 (gE 1 iD))) rr):=⟨fun h=>yO h⟩
  unfold me at h;refine Zx.iA (gC ?_);delta X5;refine g_ ?_;refine iU h fun hp h=>?_
  refine it h (fun hc h=>?_) fun hc h=>?_
  ·refine iU h fun hp h=>?_
   refine iU h fun hp h=>?_
   refine it h (fun hc h=>?_) fun hc h=>?_
   ·refine rC h fun r hr h=>?_
    refine iU h fun hp h=>?_
    exact mm
   refine iU h fun hp h=>?_
   refine rC h fun r hr h=>?_
   refine it h (fun hc h=>?_) fun hc h=>?_
   ·refine iU h fun hp h=>?_
    exact mm
   ·exact mm
  refine iU h fun hp h=>?_
  refine iU h fun hp h=>?_
  refine i_ (by kernel_rfl) (g_ ?_);refine iF h fun hc h=>?_
  refine iU h fun hp h=>?_
  refine rC h fun r_2 hr_2 h=>?_
  refine iF h fun hc h=>?_
  refine iU h fun hp h=>?_
  refine rC h fun r_6 hr_6 h=>?_
  refine rC h fun r_7 hr_7 h=>?_
  refine jk h [11,15,16,17,18,19,96,97,98,99,100,101,102,103,104,105,106,107,108,109,110,111,112,113,114,115,116,117,118,119,120,121,122,123,124,125,126,127,128,129,130,131,132,133,134,135,136,137,138,139,140,141,142] (fun pp=>[(11,.d (gE 1 (gE 1 (gE 1 iD)) pp.1)),(15,.d (iD pp.2))]) (fun pp=>[(5,.obj 27 [.d (gE 1 iD sig)]),(20,.tok 45 1 1),(88,.tok 45 1 1)]) ?_;rintro⟨out,i⟩ t1 h hb1;unfold tL at h;try dsimp only at h
  refine gC (g_ ?_);refine iT h fun hc h=>?_
  refine jk h [16,17,18,19,103,104,105,106,107,108,109,110,111,112,113,114,115,116,117,118,119,120,121,122,123,124,125,126,127,128,129,130,131,132,133,134,135,136,137,138,139,140,141] (fun pp=>[(16,.d (gE 1 (gE 1 (gE 1 iD)) pp.1)),(17,.d (iD pp.2))]) (fun pp=>[(5,.obj 27 [.d (gE 1 iD sig)]),(20,.tok 45 1 1),(88,.tok 45 1 1),(102,.tok 45 1 0)]) ?_;rintro⟨next',k⟩ t2 h hb2;unfold qq at h;try dsimp only at h
  refine gC (g_ ?_);refine it h (fun hc h=>?_) fun hc h=>?_
  ·refine iU h fun hp h=>?_
   refine dC h fun r_8 hr_8 h=>?_
   refine iU h fun hp h=>?_
   refine dC h fun r_9 hr_9 h=>?_
   refine iU h fun hp h=>?_
   refine dC h fun r_10 hr_10 h=>?_
   refine i_ (by kernel_rfl) (g_ ?_);refine jk h [16,19,130,131,132,133,134,135,136,137,138,139,140,141] (fun pp=>[(16,.d (gE 1 (gE 1 (gE 1 iD)) pp.1)),(19,.d (iD pp.2))]) (fun pp=>[(5,.obj 27 [.d (gE 1 iD sig)]),(20,.tok 45 1 1),(88,.tok 45 1 1),(102,.tok 45 1 0)]) ?_;rintro⟨next'_1,x⟩ t3 h hb3;unfold oC at h;try dsimp only at h
   refine gC (g_ ?_);exact mm
  replace h:=gY h hb2;cases h;refine⟨_,rfl,?_⟩;refine(gT.drop 102 gB).trans ?_;exact wk
instance Iw{sig:fP}{ac:fP}{p:fP}{t:fP}{given:fQ}:gW (pV sig ac p t given) fun rr=>iC Tryz.prog 82 [gQ sig,(gE 1 iD) ac,(gE 1 iD) p,(gE 1 iD) t,(gE 1 (gE 1 iD)) given] ((gE 1 (gE 1 (gE 1 iD))) rr):=⟨fun h=>yO (pq h).choose_spec⟩
def SS:gH:=
 (.seq (.gD (sq 2 [.mv (.const (.slice none 0 0))])) (.seq (.gD (sq 5 [.lQ 5 22 1 []]++sq 3 [mv 5])) (.seq (.seq (.gD (sq 4 [mi 0])) (.block 0 (.loop (.seq (.seq (.gD (sq 6 [mv 4,mv 0,ln 7,bn .lss 6 8])) (.cond (t0 9) .skip (.exit 0))) (.seq (.block 1 (.gD (sq 12 [mv 3,mv 0,mv 4,ix 1 13 14,ld 15,cf 105 [16],.lQ 18 22 1 [(t0 17)],ap 19 22 1 24 12 18]++sq 3 [mv 19]))) (.gD (sq 10 [mv 4,bi .add 10 1]++sq 4 [mv 11]))))))) (.seq (.gD (sq 20 [mv 3]++sq 2 [mv 20])) .ret))))
theorem WB:jT Tryz.prog 140 SS 21 [.tmp 2]:=mf Tryz.func140 Tryz.ntmps140
def qk(list:fQ):f_->Option (f_⊕fQ)
 |(out,i)=>
  if(decide (i<(list.length:Int)))=true then
   if 0<=i/\i<(list.length:Int)then
    (nG (list.getD i.toNat default)).bind fun r=>
    if(out.length+1)*24<=140737488355328 then
     some (.inl ((out++[r]),(IntKind.i64.wrap (i+1))))
    else none
   else none
  else
   Option.map Sum.inr (
    some out)
def nT(list:fQ):Option fQ:=
 gK (qk list) ([],0)
instance Ir{list:fQ}:gW (nT list) fun rr=>iC Tryz.prog 140 [(gE 1 (gE 1 iD)) list] ((gE 1 (gE 1 iD)) rr):=⟨@fun rr h=>by
 delta nT at h;refine WB.iA (gC ?_);delta SS;refine g_ ?_;refine jk h [3,4,6,7,8,9,10,11,12,13,14,15,16,17,18,19] (fun pp=>[(3,.own 1 5 (List.map (gE 1 iD) pp.1)),(4,.d (iD pp.2))]) (fun pp=>[(5,.tok 22 1 pp.1.length)]) ?_;rintro⟨out,i⟩ t1 h hb1;unfold qk at h;try dsimp only at h
 refine gC (g_ ?_);refine iT h fun hc h=>?_
 refine iU h fun hp h=>?_
 refine lM [] [(3,17)] h fun r hr h=>?_
 refine iU h fun hp h=>?_
 cases h;refine⟨_,rfl,?_⟩;refine(gT.drop 17 gB).trans ?_;refine(gT.drop 18 gB).trans ?_;exact wk⟩
def X9:gH:=
 (.seq (.gD (sq 2 [.mv (.const (.slice none 0 0))])) (.seq (.gD (sq 3 [mv 0,cf 140 [3]]++sq 2 [mv 4])) .ret))
theorem ZB:jT Tryz.prog 86 X9 5 [.tmp 2]:=mf Tryz.func86 Tryz.ntmps86
def tI(given:fQ):Option fQ:=
 (nT given).bind fun r=>
 some r
instance M3{given:fQ}:gW (tI given) fun rr=>iC Tryz.prog 86 [(gE 1 (gE 1 iD)) given] ((gE 1 (gE 1 iD)) rr):=⟨@fun rr h=>by
 delta tI at h;refine ZB.iA (gC ?_);delta X9;refine g_ ?_;exact mm⟩
def X8:gH:=
 (.seq (.gD (sq 1 [bo 1 47 0,.alloc 2 47 [.sl 0 (some true) []]])) (.seq (.gD (sq 6 [.build [.sl 0 (some true) []] []]++sq 3 [.alloc 3 47 [.sl 0 (some true) []]]++s0 (sr 1 3 6))) (.seq (.seq (.gD (sq 4 [mi 0])) (.block 0 (.loop (.seq (.seq (.gD (sq 7 [mv 4,fa 0 1,ld 8,ln 9,bn .lss 7 10])) (.cond (t0 11) .skip (.exit 0))) (.seq (.block 1 (.seq (.gD (sq 14 [la 1 1,mv 4,cf 59 [14,15]]++sq 5 [mv 16])) (.seq (.seq (.gD (sq 17 [mv 5,ln 17,bi .eql 18 1,mv 19]++sg 20 true 21 [mv 5,.tD 1 (t0 21) (i0 0),ld 22,mv 4,.bin .sub (i0 (-1)) (t0 24),bn .eql 23 25]++sq 27 [pa 20 26])) (.cond (t0 27) (.gD (sq 28 [.lQ 28 2 1 []]++sq 5 [mv 28])) .skip)) (.gD (sq 29 [fa 0 3,ld 29,mv 5,.lQ 32 22 1 [(t0 31)],ap 33 22 1 24 30 32,fa 0 3]++s0 (sr 1 34 33)))))) (.gD (sq 12 [mv 4,bi .add 12 1]++sq 4 [mv 13]))))))) (.seq (.block 2 (.loop (.seq (.seq (.gD (sq 35 [fa 0 3,ld 35,ln 36,bi .gtr 37 0,mv 38]++sg 39 true 40 [fa 0 3,ld 40,fa 0 3,ld 42,ln 43,bi .sub 44 1,ix 1 41 45,ld 46,ln 47,bi .eql 48 0]++sq 50 [pa 39 49])) (.cond (t0 50) .skip (.exit 2))) (.block 3 (.gD (sq 51 [fa 0 3,ld 51,fa 0 3,ld 53,ln 54,bi .sub 55 1,.slc (t0 52) 1 none (some (t0 56)) none,fa 0 3]++s0 (sr 1 58 57))))))) (.seq (.gD (sq 59 [la 1 3]++s0 (sr 1 2 59))) .ret)))))
theorem ZA:jT Tryz.prog 85 X8 60 [.cell 2 1 true]:=mf Tryz.func85 Tryz.ntmps85
def tO:fQ->Option (fQ⊕fQ)
 |out_1=>
  if(decide (0<(out_1.length:Int)))=true then
   if 0<=(IntKind.i64.wrap ((out_1.length:Int)-1))/\(IntKind.i64.wrap ((out_1.length:Int)-1))<(out_1.length:Int)then
    if(((out_1.getD (IntKind.i64.wrap ((out_1.length:Int)-1)).toNat default).length:Int)==0)=true then
     if 0<=(IntKind.i64.wrap ((out_1.length:Int)-1))/\(IntKind.i64.wrap ((out_1.length:Int)-1))<=(out_1.length:Int)then
      some (.inl (out_1.take (IntKind.i64.wrap ((out_1.length:Int)-1)).toNat))
     else none
    else
     Option.map Sum.inr (
      some out_1)
   else none
  else
   Option.map Sum.inr (
    some out_1)
def tN(s:fQ):gq->Option (gq⊕fQ)
 |(i,out)=>
  if(decide (i<(s.length:Int)))=true then
   (pe s i).bind fun r=>
   if((r.length:Int)==1)=true then
    if 0<=0/\0<(r.length:Int)then
     if((r.getD 0 default)==(IntKind.i64.wrap ((-1)-i)))=true then
      if(out.length+1)*24<=140737488355328 then
       some (.inl ((IntKind.i64.wrap (i+1)),(out++[[]])))
      else none
     else
      if(out.length+1)*24<=140737488355328 then
       some (.inl ((IntKind.i64.wrap (i+1)),(out++[r])))
      else none
    else none
   else
    if(out.length+1)*24<=140737488355328 then
     some (.inl ((IntKind.i64.wrap (i+1)),(out++[r])))
    else none
  else
   Option.map Sum.inr (
    gK (tO) out)
def pg(s:fQ):Option fQ:=
 gK (tN s) (0,[])
instance M_{s:fQ}:gW (pg s) fun rr=>iC Tryz.prog 85 [jJ s] (jJ rr):=⟨@fun rr h=>by
 delta pg at h;refine ZA.iA (gC ?_);delta X8;refine g_ ?_;refine mO h [4,5,7,8,9,10,11,12,13,14,15,16,17,18,19,20,21,22,23,24,25,26,27,28,29,30,31,32,33,34] (fun pp=>[(4,.d (iD pp.1))]) (fun pp=>[(1,.obj 47 [.d (gE 1 (gE 1 iD) s)]),(2,.obj 47 [.d (.sl 0 (some true) [])]),(3,.obj 47 [.own 1 33 (List.map (gE 1 iD) pp.2)]),(33,.tok 22 1 pp.2.length)]) ?_ ?_
 ·try dsimp only
  refine(gT.rZ 3 0 33 22 1 rfl rfl rfl).trans ?_;exact wk
 rintro⟨i,out⟩ t1 h hb1;unfold tN at h;try dsimp only at h
 refine gC (g_ ?_);refine it h (fun hc h=>?_) fun hc h=>?_
 ·refine rC h fun r hr h=>?_
  refine it h (fun hc h=>?_) fun hc h=>?_
  ·refine iU h fun hp h=>?_
   refine it h (fun hc h=>?_) fun hc h=>?_
   ·refine iU h fun hp h=>?_
    cases h;refine⟨_,rfl,?_⟩;refine(gT.drop 28 gB).trans ?_;refine(gT.drop 32 gB).trans ?_;exact wk
   refine iU h fun hp h=>?_
   cases h;refine⟨_,rfl,?_⟩;refine(gT.drop 32 gB).trans ?_;exact wk
  refine iU h fun hp h=>?_
  cases h;refine⟨_,rfl,?_⟩;refine(gT.drop 32 gB).trans ?_;exact wk
 replace h:=gY h hb1;refine mO h [35,36,37,38,39,40,41,42,43,44,45,46,47,48,49,50,51,52,53,54,55,56,57,58] (fun pp=>[]) (fun pp=>[(1,.obj 47 [.d (gE 1 (gE 1 iD) s)]),(2,.obj 47 [.d (.sl 0 (some true) [])]),(3,.obj 47 [.d (gE 1 (gE 1 iD) pp)])]) ?_ ?_
 ·try dsimp only
  refine(gT.drop 33 gB).trans ?_;exact wk
 rintro out_1 t1 h hb1;unfold tO at h;try dsimp only at h
 refine gC (g_ ?_);exact mm⟩
def vc:gH:=
 (.seq (.gD (sq 4 [bo 4 27 0]++sq 8 [.mv (.const (.slice none 0 0)),mb false])) (.seq (.seq (.gD (sq 15 [la 1 4,mv 1,mv 2,cf 81 [15,16,17],nt 18,mv 19]++sg 20 false 21 [la 1 4,mv 1,mv 3,cf 81 [21,22,23],nt 24]++sq 26 [po 20 25])) (.cond (t0 26) (.seq (.gD (sq 27 [.lQ 27 47 1 []]++sq 8 [mv 27,mb false])) .ret) .skip)) (.seq (.draw (sq 28 [la 1 4,mv 1,mv 2,la 1 4,mv 1,mv 3,cf 62 [31,32,33],.Ae 35 22 1 24 [.sl 0 (some true) []] false (i0 24) (i0 24),cf 82 [28,29,30,34,35]]++sq 10 [mv 36]) [[],[],[],[],[],[],[3,4,5],[],[0,1,2,6,7,6],[8,8,0,1,2,3,4,5,6,7,8]]) (.seq (.gD (sq 37 [.lQ 37 45 1 []]++sq 11 [mv 37])) (.seq (.seq (.gD (sq 12 [mi 0])) (.block 0 (.loop (.seq (.seq (.gD (sq 38 [mv 12,mv 10,ln 39,bn .lss 38 40])) (.cond (t0 41) .skip (.exit 0))) (.seq (.block 1 (.gD (sq 44 [mv 11,mv 10,mv 12,ix 1 45 46,ld 47,cf 84 [48],cf 83 [44,49]]++sq 11 [mv 50]))) (.gD (sq 42 [mv 12,bi .add 42 1]++sq 12 [mv 43]))))))) (.seq (.seq (.gD (sq 51 [mv 11,ln 51,bi .gtr 52 20])) (.cond (t0 53) (.seq (.gD (sq 54 [.lQ 54 47 1 []]++sq 8 [mv 54,mb false])) .ret) .skip)) (.seq (.gD (sq 55 [.lQ 55 47 1 []]++sq 13 [mv 55])) (.seq (.seq (.gD (sq 14 [mi 0])) (.block 2 (.loop (.seq (.seq (.gD (sq 56 [mv 14,mv 11,ln 57,bn .lss 56 58])) (.cond (t0 59) .skip (.exit 2))) (.seq (.block 3 (.gD (sq 62 [mv 13,mv 11,mv 14,ix 1 63 64,ld 65,cf 86 [66],.build [.sl 0 (some true) []] [(0,1,(t0 67))],cf 85 [68],.lQ 70 47 1 [(t0 69)],ap 71 47 1 24 62 70]++sq 13 [mv 71]))) (.gD (sq 60 [mv 14,bi .add 60 1]++sq 14 [mv 61]))))))) (.seq (.gD (sq 72 [mv 13]++sq 8 [mv 72,mb true])) .ret)))))))))
theorem yR:jT Tryz.prog 51 vc 73 [.tmp 8,.tmp 9]:=mf Tryz.func51 Tryz.ntmps51
def oB(all:fW):gn->Option (gn⊕(fW×Bool))
 |(out,i_1)=>
  if(decide (i_1<(all.length:Int)))=true then
   if 0<=i_1/\i_1<(all.length:Int)then
    (tI (all.getD i_1.toNat default)).bind fun r_6=>
    (pg r_6).bind fun r_7=>
    if(out.length+1)*24<=140737488355328 then
     some (.inl ((out++[r_7]),(IntKind.i64.wrap (i_1+1))))
    else none
   else none
  else
   Option.map Sum.inr (
    some (out,true))
def mS(r_3:fW):gn->Option (gn⊕(fW×Bool))
 |(all,i)=>
  if(decide (i<(r_3.length:Int)))=true then
   if 0<=i/\i<(r_3.length:Int)then
    (qc (r_3.getD i.toNat default)).bind fun r_4=>
    (nH all r_4).bind fun r_5=>
    some (.inl (r_5,(IntKind.i64.wrap (i+1))))
   else none
  else
   Option.map Sum.inr (
    if(decide (20<(all.length:Int)))=true then
     some ([],false)
    else
     gK (oB all) ([],0))
def jY(sig:fP)(ac:fP)(p:fP)(t:fP):Option (fW×Bool):=
 (nI sig ac p).bind fun r=>
 if r=true then
  (nI sig ac t).bind fun r_1=>
  if r_1=true then
   (jq sig ac t).bind fun r_2=>
   (pV sig ac p r_2 (List.replicate 24 [])).bind fun r_3=>
   gK (mS r_3) ([],0)
  else
   some ([],false)
 else
  some ([],false)
instance JW{sig:fP}{ac:fP}{p:fP}{t:fP}:gW (jY sig ac p t) fun rr=>pn Tryz.prog 51 [gQ sig,(gE 1 iD) ac,(gE 1 iD) p,(gE 1 iD) t] [(gE 1 jJ) rr.1,bD rr.2]:=⟨@fun rr h=>by
 delta jY at h;refine yR.qn (gC ?_);delta vc;refine g_ ?_;refine rC h fun r hr h=>?_
 refine iT h fun hc h=>?_
 refine rC h fun r_1 hr_1 h=>?_
 refine iT h fun hc h=>?_
 refine dC h fun r_2 hr_2 h=>?_
 refine Eg ?_;refine dC h fun r_3 hr_3 h=>?_
 refine i_ (by kernel_rfl) (g_ ?_);refine jk h [11,12,38,39,40,41,42,43,44,45,46,47,48,49,50] (fun pp=>[(11,.d (gE 1 (gE 1 (gE 1 iD)) pp.1)),(12,.d (iD pp.2))]) (fun pp=>[(4,.obj 27 [.d (gE 1 iD sig)]),(37,.tok 45 1 0)]) ?_;rintro⟨all,i⟩ t1 h hb1;unfold mS at h;try dsimp only at h
 refine gC (g_ ?_);refine iF h fun hc h=>?_
 replace h:=gY h hb1;refine iF h fun hc h=>?_
 refine jk h [13,14,56,57,58,59,60,61,62,63,64,65,66,67,68,69,70,71] (fun pp=>[(13,.own 1 55 (List.map jJ pp.1)),(14,.d (iD pp.2))]) (fun pp=>[(4,.obj 27 [.d (gE 1 iD sig)]),(37,.tok 45 1 0),(55,.tok 47 1 pp.1.length)]) ?_;rintro⟨out,i_1⟩ t1 h hb1;unfold oB at h;try dsimp only at h
 refine gC (g_ ?_);refine iT h fun hc h=>?_
 refine iU h fun hp h=>?_
 refine rC h fun r_6 hr_6 h=>?_
 refine rC h fun r_7 hr_7 h=>?_
 refine iU h fun hp h=>?_
 cases h;refine⟨_,rfl,?_⟩;refine(gT.drop 70 gB).trans ?_;exact wk⟩
end Go.Proofs.YthdnkoejpdcnpaaGreat
