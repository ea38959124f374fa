/- A part of the proof about FnAcMatches (D7_7). -/
import Derived.Test.YthdnkoejpdcnpaaGreatMal
set_option linter.all false
noncomputable section
namespace Go.Proofs.YthdnkoejpdcnpaaGreat
open Go kJ
attribute [local irreducible] sG ud tP lp kI oZ jk ya yG wF yF wv rj kR lN ym gV ki
set_option maxHeartbeats 4000000
set_option maxRecDepth 8000
theorem ML{xs:List fN}(h:2<=xs.length):gu 1 iD (xs.getD 1 default)::gu 1 iD (xs.getD 0 default)::List.drop 1 (List.drop 1 (gQ (gu 1 iD) xs))=gQ (gu 1 iD) ((xs.set 0 (xs.getD 1 default)).set 1 (xs.getD 0 default)):=by
 match xs,h with
 |x::y::zs,_=>rfl
def ql:gB:=
 (.seq (.gv (sq 5 [bo 5 27 1]++sq 8 [.mv (.const (.slice none 0 0))])) (.seq (.gv (sq 19 [mv 3,.qj 1 (t0 19) (i0 0),ld 20,.mW 22 2 1 [(t0 21)]]++sq 9 [mv 22])) (.seq (.gv (sq 23 [la 1 5,mv 3,.iy 111 [(t0 23),(t0 24),(i0 0)]]++sq 10 [mv 25])) (.seq (.gv (sq 26 [.wN 26 22 1 []]++sq 11 [mv 26])) (.seq (.seq (.gv (sq 12 [mi 0])) (.block 0 (.loop (.seq (.seq (.gv (sq 27 [mv 12,mv 10,ln 28,bn .lss 27 29])) (.cond (t0 30) .skip (.exit 0))) (.seq (.block 1 (.draw (sq 33 [mv 11,mv 0,la 1 5,mv 2,la 1 5,mv 3,mv 10,mv 12,ix 1 39 40,ld 41,cf 112 [37,38,42],cf 103 [34,35,36,43],.mW 45 22 1 [(t0 44)],ap 46 22 1 24 33 45]++sq 11 [mv 46]) [[],[],[],[],[],[],[],[],[6,7],[8],[4,5,9],[1,2,3,10,10],[11],[0,12,11],[13,13,0,1,2,3,4,5,6,7,8,9,10,11,12,13]])) (.gv (sq 31 [mv 12,bi .add 31 1]++sq 12 [mv 32]))))))) (.seq (.seq (.gv (sq 47 [mv 2,mv 3,.qj 1 (t0 48) (i0 0),ld 49,cf 107 [47,50],mv 51]++sg 52 true 53 [mv 0,.iy 75 [(t0 53),(i0 2)]]++sq 55 [pa 52 54])) (.cond (t0 55) (.seq (.gv (sq 56 [mv 11,.qj 1 (t0 56) (i0 0),ld 57]++sq 13 [mv 58])) (.seq (.gv (sq 59 [mv 11,mv 11,.qj 1 (t0 60) (i0 1),ld 61,.qj 1 (t0 59) (i0 0)]++s0 (sr 1 63 62))) (.gv (sq 64 [mv 11,mv 13,.qj 1 (t0 64) (i0 1)]++s0 (sr 1 66 65))))) .skip)) (.seq (.seq (.draw (sq 67 [mv 2,mv 3,.qj 1 (t0 68) (i0 0),ld 69,cf 107 [67,70],mv 71]++sg 72 true 73 [mv 11,.qj 1 (t0 73) (i0 0),ld 74,.qj 1 (t0 75) (i0 0),ld 76,mv 3,.qj 1 (t0 78) (i0 0),ld 79,bn .eql 77 80]++sq 82 [pa 72 81,mv 82]++sg 83 true 84 [mv 0,.iy 75 [(t0 84),(i0 2)]]++sq 86 [pa 83 85]) [[],[],[1],[2],[0,3],[4,4],[5],[6,5],[7,5],[8,5],[9,5],[5],[11,5],[12,5],[10,13,5],[5,14],[15,5],[16],[17,16,16],[16,18]]) (.cond (t0 86) (.seq (.draw (sq 87 [la 1 5,mv 11,.qj 1 (t0 88) (i0 0),ld 89,.iy 111 [(t0 87),(t0 90),(i0 0)]]++sq 14 [mv 91]) [[],[],[1],[2],[0,3],[4,4,0,1,2,3,4]]) (.seq (.draw (sq 92 [la 1 5,mv 11,.qj 1 (t0 93) (i0 0),ld 94,mv 14,.qj 1 (t0 96) (i0 0),ld 97,cf 112 [92,95,98]]++sq 15 [mv 99]) [[],[],[1],[2],[],[4],[5],[0,3,6],[7,7,0,1,2,3,4,5,6,7]]) (.seq (.draw (sq 100 [la 1 5,mv 11,.qj 1 (t0 101) (i0 0),ld 102,mv 14,.qj 1 (t0 104) (i0 1),ld 105,cf 112 [100,103,106]]++sq 16 [mv 107]) [[],[],[1],[2],[],[4],[5],[0,3,6],[7,7,0,1,2,3,4,5,6,7]]) (.seq (.draw (sq 108 [mv 3,.qj 1 (t0 108) (i0 0),ld 109,.mW 111 2 1 [(t0 110)],mv 16,ap 113 2 1 8 111 112,mv 11,.qj 1 (t0 114) (i0 1),ld 115,ap 117 2 1 8 113 116]++sq 17 [mv 117]) [[],[0],[1],[2],[],[3,4],[],[6],[7],[5,8,5],[9,9,0,1,2,3,4,5,6,7,8,9]]) (.seq (.gv (sq 118 [mv 9,mv 15,ap 120 2 1 8 118 119,mv 17,ap 122 2 1 8 120 121]++sq 8 [mv 122])) .ret))))) .skip)) (.seq (.seq (.gv (sq 18 [mi 0])) (.block 2 (.loop (.seq (.seq (.gv (sq 123 [mv 18,mv 11,ln 124,bn .lss 123 125])) (.cond (t0 126) .skip (.exit 2))) (.seq (.block 3 (.gv (sq 129 [mv 9,mv 11,mv 18,ix 1 130 131,ld 132,ap 134 2 1 8 129 133]++sq 9 [mv 134]))) (.gv (sq 127 [mv 18,bi .add 127 1]++sq 18 [mv 128]))))))) (.seq (.gv (sq 135 [mv 9]++sq 8 [mv 135])) .ret)))))))))
theorem uZ:kG Tryz.prog 103 ql 136 [.tmp 8]:=mf Tryz.func103 Tryz.ntmps103
def kz(g26:fO)(r_6:fV):fT->Option (fT⊕fP)
 |(out,i_1)=>
  if(decide (i_1<(((g26.set 0 (g26.getD 1 default)).set 1 (g26.getD 0 default)).length:Int)))=true then
   if 0<=i_1/\i_1<(((g26.set 0 (g26.getD 1 default)).set 1 (g26.getD 0 default)).length:Int)then
    if(out.length+(((g26.set 0 (g26.getD 1 default)).set 1 (g26.getD 0 default)).getD i_1.toNat default).length)*8<=140737488355328 then
     some (.inl ((out++(((g26.set 0 (g26.getD 1 default)).set 1 (g26.getD 0 default)).getD i_1.toNat default)),(IntKind.i64.wrap (i_1+1))))
    else none
   else none
  else
   Option.map Sum.inr (
    some (out,r_6.2.1,r_6.2.2))
def kA(g26:fO)(r_4:fV):fT->Option (fT⊕fP)
 |(out_1,i_2)=>
  if(decide (i_2<(((g26.set 0 (g26.getD 1 default)).set 1 (g26.getD 0 default)).length:Int)))=true then
   if 0<=i_2/\i_2<(((g26.set 0 (g26.getD 1 default)).set 1 (g26.getD 0 default)).length:Int)then
    if(out_1.length+(((g26.set 0 (g26.getD 1 default)).set 1 (g26.getD 0 default)).getD i_2.toNat default).length)*8<=140737488355328 then
     some (.inl ((out_1++(((g26.set 0 (g26.getD 1 default)).set 1 (g26.getD 0 default)).getD i_2.toNat default)),(IntKind.i64.wrap (i_2+1))))
    else none
   else none
  else
   Option.map Sum.inr (
    some (out_1,r_4.2.1,r_4.2.2))
def kB(g26:fO)(r_11:fV):fT->Option (fT⊕fP)
 |(out_3,i_4)=>
  if(decide (i_4<(g26.length:Int)))=true then
   if 0<=i_4/\i_4<(g26.length:Int)then
    if(out_3.length+(g26.getD i_4.toNat default).length)*8<=140737488355328 then
     some (.inl ((out_3++(g26.getD i_4.toNat default)),(IntKind.i64.wrap (i_4+1))))
    else none
   else none
  else
   Option.map Sum.inr (
    some (out_3,r_11.2.1,r_11.2.2))
def kC(g26:fO)(r_4:fV):fT->Option (fT⊕fP)
 |(out_4,i_5)=>
  if(decide (i_5<(g26.length:Int)))=true then
   if 0<=i_5/\i_5<(g26.length:Int)then
    if(out_4.length+(g26.getD i_5.toNat default).length)*8<=140737488355328 then
     some (.inl ((out_4++(g26.getD i_5.toNat default)),(IntKind.i64.wrap (i_5+1))))
    else none
   else none
  else
   Option.map Sum.inr (
    some (out_4,r_4.2.1,r_4.2.2))
def jZ(c:Int)(c_1:Int)(g26:fO):fT->Option (fT⊕fP)
 |(out_8,i_9)=>
  if(decide (i_9<(g26.length:Int)))=true then
   if 0<=i_9/\i_9<(g26.length:Int)then
    if(out_8.length+(g26.getD i_9.toNat default).length)*8<=140737488355328 then
     some (.inl ((out_8++(g26.getD i_9.toNat default)),(IntKind.i64.wrap (i_9+1))))
    else none
   else none
  else
   Option.map Sum.inr (
    some (out_8,c,c_1))
def nX(rec:fN->fN->fN->fN->Int->Int->Option fP)(sig:fN)(ac:fN)(t:fN)(c0:fN)(r:fN):(Int×Int×Int×fO)->Option ((Int×Int×Int×fO)⊕fP)
 |(i,c,c_1,g26)=>
  if(decide (i<(r.length:Int)))=true then
   if 0<=i/\i<(r.length:Int)then
    (iQ sig t (r.getD i.toNat default)).bind fun r_1=>
    (rec sig ac r_1 c0 c c_1).bind fun r_2=>
    if(g26.length+1)*24<=140737488355328 then
     some (.inl ((IntKind.i64.wrap (i+1)),r_2.2.1,r_2.2.2,(g26++[r_2.1])))
    else none
   else none
  else
   Option.map Sum.inr (
    if 0<=0/\0<(t.length:Int)then
     (kP ac (t.getD 0 default)).bind fun r_3=>
     if r_3=true then
      (gR 2 c0 c c_1).bind fun r_4=>
      if r_4.1=true then
       if 0<=0/\0<(g26.length:Int)then
        if 0<=1/\1<(g26.length:Int)then
         if 0<=0/\0<(g26.length:Int)then
          if 0<=1/\1<((g26.set 0 (g26.getD 1 default)).length:Int)then
           if 0<=0/\0<(t.length:Int)then
            (kP ac (t.getD 0 default)).bind fun r_5=>
            if r_5=true then
             if 0<=0/\0<(((g26.set 0 (g26.getD 1 default)).set 1 (g26.getD 0 default)).length:Int)then
              if 0<=0/\0<((((g26.set 0 (g26.getD 1 default)).set 1 (g26.getD 0 default)).getD 0 default).length:Int)then
               if 0<=0/\0<(t.length:Int)then
                if(((((g26.set 0 (g26.getD 1 default)).set 1 (g26.getD 0 default)).getD 0 default).getD 0 default)==(t.getD 0 default))=true then
                 (gR 2 c0 r_4.2.1 r_4.2.2).bind fun r_6=>
                 if r_6.1=true then
                  if 0<=0/\0<(((g26.set 0 (g26.getD 1 default)).set 1 (g26.getD 0 default)).length:Int)then
                   (jg sig (((g26.set 0 (g26.getD 1 default)).set 1 (g26.getD 0 default)).getD 0 default) 0).bind fun r_7=>
                   if 0<=0/\0<(((g26.set 0 (g26.getD 1 default)).set 1 (g26.getD 0 default)).length:Int)then
                    if 0<=0/\0<(r_7.length:Int)then
                     (iQ sig (((g26.set 0 (g26.getD 1 default)).set 1 (g26.getD 0 default)).getD 0 default) (r_7.getD 0 default)).bind fun r_8=>
                     if 0<=0/\0<(((g26.set 0 (g26.getD 1 default)).set 1 (g26.getD 0 default)).length:Int)then
                      if 0<=1/\1<(r_7.length:Int)then
                       (iQ sig (((g26.set 0 (g26.getD 1 default)).set 1 (g26.getD 0 default)).getD 0 default) (r_7.getD 1 default)).bind fun r_9=>
                       if 0<=0/\0<(t.length:Int)then
                        if(1+r_9.length)*8<=140737488355328 then
                         if 0<=1/\1<(((g26.set 0 (g26.getD 1 default)).set 1 (g26.getD 0 default)).length:Int)then
                          if(([(t.getD 0 default)]++r_9).length+(((g26.set 0 (g26.getD 1 default)).set 1 (g26.getD 0 default)).getD 1 default).length)*8<=140737488355328 then
                           if(1+r_8.length)*8<=140737488355328 then
                            if(([(t.getD 0 default)]++r_8).length+(([(t.getD 0 default)]++r_9)++(((g26.set 0 (g26.getD 1 default)).set 1 (g26.getD 0 default)).getD 1 default)).length)*8<=140737488355328 then
                             some ((([(t.getD 0 default)]++r_8)++(([(t.getD 0 default)]++r_9)++(((g26.set 0 (g26.getD 1 default)).set 1 (g26.getD 0 default)).getD 1 default))),r_6.2.1,r_6.2.2)
                            else none
                           else none
                          else none
                         else none
                        else none
                       else none
                      else none
                     else none
                    else none
                   else none
                  else none
                 else
                  gF (kz g26 r_6) ([(t.getD 0 default)],0)
                else
                 gF (kA g26 r_4) ([(t.getD 0 default)],0)
               else none
              else none
             else none
            else
             none
           else none
          else none
         else none
        else none
       else none
      else
       if 0<=0/\0<(t.length:Int)then
        (kP ac (t.getD 0 default)).bind fun r_10=>
        if r_10=true then
         if 0<=0/\0<(g26.length:Int)then
          if 0<=0/\0<((g26.getD 0 default).length:Int)then
           if 0<=0/\0<(t.length:Int)then
            if(((g26.getD 0 default).getD 0 default)==(t.getD 0 default))=true then
             (gR 2 c0 r_4.2.1 r_4.2.2).bind fun r_11=>
             if r_11.1=true then
              if 0<=0/\0<(g26.length:Int)then
               (jg sig (g26.getD 0 default) 0).bind fun r_12=>
               if 0<=0/\0<(g26.length:Int)then
                if 0<=0/\0<(r_12.length:Int)then
                 (iQ sig (g26.getD 0 default) (r_12.getD 0 default)).bind fun r_13=>
                 if 0<=0/\0<(g26.length:Int)then
                  if 0<=1/\1<(r_12.length:Int)then
                   (iQ sig (g26.getD 0 default) (r_12.getD 1 default)).bind fun r_14=>
                   if 0<=0/\0<(t.length:Int)then
                    if(1+r_14.length)*8<=140737488355328 then
                     if 0<=1/\1<(g26.length:Int)then
                      if(([(t.getD 0 default)]++r_14).length+(g26.getD 1 default).length)*8<=140737488355328 then
                       if(1+r_13.length)*8<=140737488355328 then
                        if(([(t.getD 0 default)]++r_13).length+(([(t.getD 0 default)]++r_14)++(g26.getD 1 default)).length)*8<=140737488355328 then
                         some ((([(t.getD 0 default)]++r_13)++(([(t.getD 0 default)]++r_14)++(g26.getD 1 default))),r_11.2.1,r_11.2.2)
                        else none
                       else none
                      else none
                     else none
                    else none
                   else none
                  else none
                 else none
                else none
               else none
              else none
             else
              gF (kB g26 r_11) ([(t.getD 0 default)],0)
            else
             gF (kC g26 r_4) ([(t.getD 0 default)],0)
           else none
          else none
         else none
        else
         none
       else none
     else
      if 0<=0/\0<(t.length:Int)then
       (kP ac (t.getD 0 default)).bind fun r_15=>
       if r_15=true then
        none
       else
        gF (jZ c c_1 g26) ([(t.getD 0 default)],0)
      else none
    else none)
def i_:Nat->fN->fN->fN->fN->Int->Int->Option fP
 |0,_,_,_,_,_,_=>none
 |fu+1,sig,ac,t,c0,c1,c2=>
  if 0<=0/\0<(t.length:Int)then
   (jg sig t 0).bind fun r=>
   gF (nX (i_ fu) sig ac t c0 r) (0,c1,c2,[])
  else none
def nH(sig:fN)(ac:fN)(t:fN)(c0:fN)(c1:Int)(c2:Int):Option fP:=yz fun fu=>i_ fu sig ac t c0 c1 c2
theorem sQ:∀{fu:Nat}{sig:fN}{ac:fN}{t:fN}{c0:fN}{c1:Int}{c2:Int}{rr:fP}(h:i_ fu sig ac t c0 c1 c2=some rr),gG Tryz.prog 103 [.ptr 0 0,.d (.agg [gu 1 iD sig]),.d (gu 1 iD ac),.d (gu 1 iD t)] [(0,.obj 119 [.d (gu 1 (kD .u8) c0),.d (iD c1),.d (iD c2)])] 1 fun xx ss=>xx=.d (gu 1 iD rr.1)/\ss=[(0,.obj 119 [.d (gu 1 (kD .u8) c0),.d (iD rr.2.1),.d (iD rr.2.2)])]
 |0,_,_,_,_,_,_,_,h=>by cases h
 |fu+1,sig,ac,t,c0,c1,c2,rr,h=>by
  have ih:∀{sig:fN}{ac:fN}{t:fN}{c0:fN}{c1:Int}{c2:Int},gP (i_ fu sig ac t c0 c1 c2) fun rr=>gG Tryz.prog 103 [.ptr 0 0,.d (.agg [gu 1 iD sig]),.d (gu 1 iD ac),.d (gu 1 iD t)] [(0,.obj 119 [.d (gu 1 (kD .u8) c0),.d (iD c1),.d (iD c2)])] 1 fun xx ss=>xx=.d (gu 1 iD rr.1)/\ss=[(0,.obj 119 [.d (gu 1 (kD .u8) c0),.d (iD rr.2.1),.d (iD rr.2.2)])]:=⟨fun h=>sQ h⟩
  unfold i_ at h;refine uZ.kS (gr ?_);delta ql;refine gW ?_;refine iC h fun hp h=>?_
  refine rC h fun r hr h=>?_
  refine jC h [11,12,27,28,29,30,31,32,33,34,35,36,37,38,39,40,41,42,43,44,45,46] (fun pp=>[(11,.jM 1 26 pp.2.2.2.length),(12,.d (iD pp.1))]) (fun pp=>[(0,.obj 119 [.d (gu 1 (kD .u8) c0),.d (iD pp.2.1),.d (iD pp.2.2.1)]),(5,.obj 27 [.d (gu 1 iD sig)]),(22,.tok 2 1 1),(26,.ij 22 1 pp.2.2.2.length (gQ (gu 1 iD) pp.2.2.2))]) ?_;rintro⟨i,c,c_1,g26⟩ t1 h hb1;unfold nX at h;try dsimp only at h
  refine gr (gW ?_);refine it h (fun hc h=>?_) fun hc h=>?_
  ·refine iC h fun hp h=>?_
   refine dC h fun r_1 hr_1 h=>?_
   refine Cx [(0,0)] [] h fun r_2 hr_2 h=>?_
   refine iC h fun hp h=>?_
   refine iY (by kernel_rfl) (gW ?_);cases h;refine⟨_,rfl,?_⟩;refine(gM.drop 45 gq).trans ?_;exact wk
  replace h:=gT h hb1;refine iC h fun hp h=>?_
  refine rC h fun r_3 hr_3 h=>?_
  refine it h (fun hc h=>?_) fun hc h=>?_
  ·refine oB [(0,0)] [] h fun r_4 hr_4 h=>?_
   refine it h (fun hc h=>?_) fun hc h=>?_
   ·refine iC h fun hp h=>?_
    refine yf ?_;refine iC h fun hp h=>?_
    refine yf ?_;refine iC h fun hp h=>?_
    refine yf ?_;refine iC h fun hp h=>?_
    refine yf ?_;refine iC h fun hp h=>?_
    have hl2:2<=g26.length:=by have:=‹0<=1/\1<(g26.length:Int)›;omega
    have hlen:g26.length=((g26.set 0 (g26.getD 1 default)).set 1 (g26.getD 0 default)).length:=by simp
    refine⟨by rw[bK,wW (e:=1) (fun _=>rfl)];omega,gq,?_⟩;rw[ML hl2];generalize hxs:(g26.set 0 (g26.getD 1 default)).set 1 (g26.getD 0 default)=xs' at h hlen⊢;rw[hlen];refine dC h fun r_5 hr_5 h=>?_
    refine it h (fun hc h=>?_) fun hc h=>?_
    ·refine iC h fun hp h=>?_
     refine yf ?_;refine iC h fun hp h=>?_
     refine iC h fun hp h=>?_
     refine it h (fun hc h=>?_) fun hc h=>?_
     ·refine Cx [(0,0)] [] h fun r_6 hr_6 h=>?_
      refine iY (by kernel_rfl) (gW ?_);refine it h (fun hc h=>?_) fun hc h=>?_
      ·refine iC h fun hp h=>?_
       refine yf ?_;refine dC h fun r_7 hr_7 h=>?_
       refine iY (by kernel_rfl) (gW ?_);refine iC h fun hp h=>?_
       refine yf ?_;refine iC h fun hp h=>?_
       refine dC h fun r_8 hr_8 h=>?_
       refine iY (by kernel_rfl) (gW ?_);refine iC h fun hp h=>?_
       refine yf ?_;refine iC h fun hp h=>?_
       refine dC h fun r_9 hr_9 h=>?_
       refine iY (by kernel_rfl) (gW ?_);refine iC h fun hp h=>?_
       refine iC h fun hp h=>?_
       refine iC h fun hp h=>?_
       refine yf ?_;refine iC h fun hp h=>?_
       refine iY (by kernel_rfl) (gW ?_);refine iC h fun hp h=>?_
       refine iC h fun hp h=>?_
       cases h;exact⟨[5,22,26,111],by simp,lH,lH⟩
      refine jC h [9,18,123,124,125,126,127,128,129,130,131,132,133,134] (fun pp=>[(9,.own 1 22 (List.map iD pp.1)),(18,.d (iD pp.2))]) (fun pp=>[(0,.obj 119 [.d (gu 1 (kD .u8) c0),.d (iD r_6.2.1),.d (iD r_6.2.2)]),(5,.obj 27 [.d (gu 1 iD sig)]),(22,.tok 2 1 pp.1.length),(26,.ij 22 1 (xs'.length) (gQ (gu 1 iD) xs'))]) ?_;rintro⟨out,i_1⟩ t1 h hb1;unfold kz at h;try dsimp only at h
      simp only[hxs]at h;refine gr (gW ?_);refine iF h fun hc h=>?_
      replace h:=gT h hb1;cases h;exact⟨[5,22,26],by simp,lH,lH⟩
     refine iY (by kernel_rfl) (gW ?_);refine jC h [9,18,123,124,125,126,127,128,129,130,131,132,133,134] (fun pp=>[(9,.own 1 22 (List.map iD pp.1)),(18,.d (iD pp.2))]) (fun pp=>[(0,.obj 119 [.d (gu 1 (kD .u8) c0),.d (iD r_4.2.1),.d (iD r_4.2.2)]),(5,.obj 27 [.d (gu 1 iD sig)]),(22,.tok 2 1 pp.1.length),(26,.ij 22 1 (xs'.length) (gQ (gu 1 iD) xs'))]) ?_;rintro⟨out_1,i_2⟩ t1 h hb1;unfold kA at h;try dsimp only at h
     simp only[hxs]at h;refine gr (gW ?_);refine iF h fun hc h=>?_
     replace h:=gT h hb1;cases h;exact⟨[5,22,26],by simp,lH,lH⟩
    cases h
   refine iC h fun hp h=>?_
   refine dC h fun r_10 hr_10 h=>?_
   refine it h (fun hc h=>?_) fun hc h=>?_
   ·refine iC h fun hp h=>?_
    refine yf ?_;refine iC h fun hp h=>?_
    refine iC h fun hp h=>?_
    refine it h (fun hc h=>?_) fun hc h=>?_
    ·refine Cx [(0,0)] [] h fun r_11 hr_11 h=>?_
     refine iY (by kernel_rfl) (gW ?_);refine it h (fun hc h=>?_) fun hc h=>?_
     ·refine iC h fun hp h=>?_
      refine yf ?_;refine dC h fun r_12 hr_12 h=>?_
      refine iY (by kernel_rfl) (gW ?_);refine iC h fun hp h=>?_
      refine yf ?_;refine iC h fun hp h=>?_
      refine dC h fun r_13 hr_13 h=>?_
      refine iY (by kernel_rfl) (gW ?_);refine iC h fun hp h=>?_
      refine yf ?_;refine iC h fun hp h=>?_
      refine dC h fun r_14 hr_14 h=>?_
      refine iY (by kernel_rfl) (gW ?_);refine iC h fun hp h=>?_
      refine iC h fun hp h=>?_
      refine iC h fun hp h=>?_
      refine yf ?_;refine iC h fun hp h=>?_
      refine iY (by kernel_rfl) (gW ?_);refine iC h fun hp h=>?_
      refine iC h fun hp h=>?_
      cases h;exact⟨[5,22,26,111],by simp,lH,lH⟩
     refine jC h [9,18,123,124,125,126,127,128,129,130,131,132,133,134] (fun pp=>[(9,.own 1 22 (List.map iD pp.1)),(18,.d (iD pp.2))]) (fun pp=>[(0,.obj 119 [.d (gu 1 (kD .u8) c0),.d (iD r_11.2.1),.d (iD r_11.2.2)]),(5,.obj 27 [.d (gu 1 iD sig)]),(22,.tok 2 1 pp.1.length),(26,.ij 22 1 g26.length (gQ (gu 1 iD) g26))]) ?_;rintro⟨out_3,i_4⟩ t1 h hb1;unfold kB at h;try dsimp only at h
     refine gr (gW ?_);refine iF h fun hc h=>?_
     replace h:=gT h hb1;cases h;exact⟨[5,22,26],by simp,lH,lH⟩
    refine iY (by kernel_rfl) (gW ?_);refine jC h [9,18,123,124,125,126,127,128,129,130,131,132,133,134] (fun pp=>[(9,.own 1 22 (List.map iD pp.1)),(18,.d (iD pp.2))]) (fun pp=>[(0,.obj 119 [.d (gu 1 (kD .u8) c0),.d (iD r_4.2.1),.d (iD r_4.2.2)]),(5,.obj 27 [.d (gu 1 iD sig)]),(22,.tok 2 1 pp.1.length),(26,.ij 22 1 g26.length (gQ (gu 1 iD) g26))]) ?_;rintro⟨out_4,i_5⟩ t1 h hb1;unfold kC at h;try dsimp only at h
    refine gr (gW ?_);refine iF h fun hc h=>?_
    replace h:=gT h hb1;cases h;exact⟨[5,22,26],by simp,lH,lH⟩
   cases h
  refine iC h fun hp h=>?_
  refine dC h fun r_15 hr_15 h=>?_
  refine it h (fun hc h=>?_) fun hc h=>?_
  ·cases h
  refine iY (by kernel_rfl) (gW ?_);refine jC h [9,18,123,124,125,126,127,128,129,130,131,132,133,134] (fun pp=>[(9,.own 1 22 (List.map iD pp.1)),(18,.d (iD pp.2))]) (fun pp=>[(0,.obj 119 [.d (gu 1 (kD .u8) c0),.d (iD c),.d (iD c_1)]),(5,.obj 27 [.d (gu 1 iD sig)]),(22,.tok 2 1 pp.1.length),(26,.ij 22 1 g26.length (gQ (gu 1 iD) g26))]) ?_;rintro⟨out_8,i_9⟩ t1 h hb1;unfold jZ at h;try dsimp only at h
  refine gr (gW ?_);refine iF h fun hc h=>?_
  replace h:=gT h hb1;cases h;exact⟨[5,22,26],by simp,lH,lH⟩
instance Cw{sig:fN}{ac:fN}{t:fN}{c0:fN}{c1:Int}{c2:Int}:gP (nH sig ac t c0 c1 c2) fun rr=>gG Tryz.prog 103 [.ptr 0 0,.d (.agg [gu 1 iD sig]),.d (gu 1 iD ac),.d (gu 1 iD t)] [(0,.obj 119 [.d (gu 1 (kD .u8) c0),.d (iD c1),.d (iD c2)])] 1 fun xx ss=>xx=.d (gu 1 iD rr.1)/\ss=[(0,.obj 119 [.d (gu 1 (kD .u8) c0),.d (iD rr.2.1),.d (iD rr.2.2)])]:=⟨fun h=>sQ (ng h).choose_spec⟩
end Go.Proofs.YthdnkoejpdcnpaaGreat
