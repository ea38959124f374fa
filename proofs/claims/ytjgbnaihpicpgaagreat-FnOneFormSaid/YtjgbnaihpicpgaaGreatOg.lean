/- A part of the proof about FnOneForm (N3, N4). -/
import Derived.Test.YtjgbnaihpicpgaaGreatOf
set_option linter.all false
noncomputable section
namespace Go.Proofs.YtjgbnaihpicpgaaGreat
open Go ng
attribute [local irreducible] uh wo vz mL mC ot kQ Be Cb zM Ca zD uj mu og BY iY lg
set_option maxHeartbeats 4000000
set_option maxRecDepth 4000
def x_(x:gG):D:=.agg [(iq 1 iD) x.1,iD x.2.1,iD x.2.2.1,iD x.2.2.2.1,(iq 1 iD) x.2.2.2.2.1,iD x.2.2.2.2.2]
instance:xd x_ 6:=⟨fun _=>rfl⟩
attribute [go_sem] x_
def ya(r:gG)(o0:gB):Option Bool:=
 (iX r.1 o0).bind fun r_1=>
 some r_1
def jP(s:(List gG))(o0:gB):Int->Option (Int⊕Int)
 |v8=>
  if(decide (v8<(s.length:Int)))=true then
   if 0<=v8/\v8<(s.length:Int)then
    (ya ((s.getD v8.toNat default).1,(s.getD v8.toNat default).2.1,(s.getD v8.toNat default).2.2.1,(s.getD v8.toNat default).2.2.2.1,(s.getD v8.toNat default).2.2.2.2.1,(s.getD v8.toNat default).2.2.2.2.2) o0).bind fun r=>
    if r=true then
     Option.map Sum.inr (
      some v8)
    else
     some (.inl (IntKind.i64.wrap (v8+1)))
   else none
  else
   Option.map Sum.inr (
    some (-1))
def j_(s:(List gG))(o0:gB):Option Int:=
 iB (jP s o0) 0
def xg(all:(List gG))(t:gB):Option Int:=
 (j_ all t).bind fun r=>
 some r
def pO(k:Int)(r_1:(gV×Bool)):((List gG)×Int)->Option (((List gG)×Int)⊕(((List gG)×Int)⊕((List gG)×Bool)))
 |(all_1,v43)=>
  if(decide (v43<(r_1.1.length:Int)))=true then
   if 0<=v43/\v43<(r_1.1.length:Int)then
    (xg all_1 ((r_1.1.getD v43.toNat default).2.2)).bind fun r_2=>
    if(decide (0<=r_2))=true then
     some (.inl (all_1,(IntKind.i64.wrap (v43+1))))
    else
     if((all_1.length:Int)==60)=true then
      Option.map Sum.inr (
       Option.map Sum.inr (
        some (all_1,false)))
     else
      if 0<=k/\k<(all_1.length:Int)then
       if(all_1.length+1)*80<=140737488355328 then
        some (.inl ((all_1++[((r_1.1.getD v43.toNat default).2.2,k,(r_1.1.getD v43.toNat default).1,(r_1.1.getD v43.toNat default).2.1,(r_1.1.getD v43.toNat default).2.2,(IntKind.i64.wrap ((all_1.getD k.toNat default).2.2.2.2.2+1)))]),(IntKind.i64.wrap (v43+1))))
       else none
      else none
   else none
  else
   Option.map Sum.inr (
    some (.inl (all_1,(IntKind.i64.wrap (k+1)))))
def pN(sys:gR)(steps:Int):((List gG)×Int)->Option (((List gG)×Int)⊕((List gG)×Bool))
 |(all,k)=>
  if(decide (k<(all.length:Int)))=true then
   if 0<=k/\k<(all.length:Int)then
    if((all.getD k.toNat default).2.2.2.2.2==steps)=true then
     some (.inl (all,(IntKind.i64.wrap (k+1))))
    else
     if 0<=k/\k<(all.length:Int)then
      (tN sys ((all.getD k.toNat default).1)).bind fun r_1=>
      iB (pO k r_1) (all,0)
     else none
   else none
  else
   Option.map Sum.inr (
    some (all,true))
def vb(x:gY):D:=.agg [(iq 1 (iq 1 iD)) x.1,(iq 1 iD) x.2.1,(iq 3 nT) x.2.2.1,(iq 1 iD) x.2.2.2.1,bD x.2.2.2.2]
instance:xd vb 5:=⟨fun _=>rfl⟩
attribute [go_sem] vb
def Yh:ir:=
 (.seq (.ie (sq 2 [bo 2 32 0]++sq 4 [mb false])) (.seq (.ie (sq 5 [la 2 2,cf 35 [5],mv 6]++sg 7 true 8 [fa 0 2,la 1 8,mv 1,cf 120 [9,10]]++sq 12 [pa 7 11]++sq 4 [mv 12])) .ret))
theorem ZL:kS Tryz.prog 85 Yh 13 [.tmp 4]:=mf Tryz.func85 Tryz.ntmps85
def mq(sys:gR)(t:gB):Option Bool:=
 (mK sys).bind fun r=>
 if r=true then
  (mW sys.1 t).bind fun r_1=>
  some r_1
 else
  some false
instance Nq{sys:gR}{t:gB}:iU (mq sys t) fun rr=>jW Tryz.prog 85 [iC sys,(iq 1 iD) t] (bD rr):=⟨@fun rr h=>by
 delta mq at h;refine ZL.jz (ia ?_);delta Yh;refine iR ?_;exact lP⟩
def X8:ir:=
 (.seq (.ie (sq 3 [bo 3 32 0]++sq 6 [mb false])) (.seq (.ie (sq 7 [la 2 3,mv 1,cf 85 [7,8],mv 9]++sg 10 true 11 [mv 2,.ke 74 [(t0 11),(i0 0),(i0 20)]]++sq 13 [pa 10 12]++sq 6 [mv 13])) .ret))
theorem ZB:kS Tryz.prog 50 X8 14 [.tmp 6]:=mf Tryz.func50 Tryz.ntmps50
def qx(sys:gR)(t:gB)(steps:Int):Option Bool:=
 (mq sys t).bind fun r=>
 if r=true then
  (k_ steps 0 20).bind fun r_1=>
  some r_1
 else
  some false
instance Ns{sys:gR}{t:gB}{steps:Int}:iU (qx sys t steps) fun rr=>jW Tryz.prog 50 [iC sys,(iq 1 iD) t,iD steps] (bD rr):=⟨@fun rr h=>by
 delta qx at h;refine ZB.jz (ia ?_);delta X8;refine iR ?_;exact lP⟩
def SY:ir:=
 (.seq (.ie (sq 4 [mi 0])) (.seq (.seq (.ie (sq 5 [mi 0])) (.block 0 (.loop (.seq (.seq (.ie (sq 6 [mv 5,mv 0,ln 7,bn .lss 6 8])) (.cond (t0 9) .skip (.exit 0))) (.seq (.block 1 (.seq (.ie (sq 12 [mv 0,mv 5,ix 1 12 13,ld 14,mv 1,cf 34 [15,16]])) (.cond (t0 17) (.seq (.ie (sq 18 [mv 5]++sq 4 [mv 18])) .ret) .skip))) (.ie (sq 10 [mv 5,bi .add 10 1]++sq 5 [mv 11]))))))) (.seq (.ie (sq 4 [mi (-1)])) .ret)))
theorem Wt:kS Tryz.prog 101 SY 19 [.tmp 4]:=mf Tryz.func101 Tryz.ntmps101
def nL(list:gE)(t:gB):Int->Option (Int⊕Int)
 |i=>
  if(decide (i<(list.length:Int)))=true then
   if 0<=i/\i<(list.length:Int)then
    (lJ (list.getD i.toNat default) t).bind fun r=>
    if r=true then
     Option.map Sum.inr (
      some i)
    else
     some (.inl (IntKind.i64.wrap (i+1)))
   else none
  else
   Option.map Sum.inr (
    some (-1))
def nD(list:gE)(t:gB):Option Int:=
 iB (nL list t) 0
instance Ib{list:gE}{t:gB}:iU (nD list t) fun rr=>jW Tryz.prog 101 [(iq 1 (iq 1 iD)) list,(iq 1 iD) t] (iD rr):=⟨@fun rr h=>by
 delta nD at h;refine Wt.jz (ia ?_);delta SY;refine iR ?_;refine kA h [4,5,6,7,8,9,10,11,12,13,14,15,16,17,18] (fun pp=>[(5,.d (iD pp))]) (fun pp=>[]) ?_;rintro i t1 h hb1;unfold nL at h;try dsimp only at h
 refine ia (iR ?_);exact lP⟩
def X9:ir:=
 (.seq (.ie (sq 3 [bo 3 32 0]++sq 6 [.alloc 6 87 [.sl 0 (some true) [],.sl 0 (some true) [],.sl 0 (some true) [],.sl 0 (some true) [],.lit (.bool false)]])) (.seq (.ie (sq 11 [mv 1,cf 53 [11],.mD 13 27 1 [(t0 12)],.mD 14 2 1 [(i0 (-1))],.build [.lit (.int .i64 0),.lit (.int .i64 0),.sl 0 (some true) []] [],.mD 16 123 3 [(t0 15)],.mD 17 2 1 [(i0 0)],.build [.sl 0 (some true) [],.sl 0 (some true) [],.sl 0 (some true) [],.sl 0 (some true) [],.lit (.bool false)] [(0,1,(t0 13)),(1,1,(t0 14)),(2,1,(t0 16)),(3,1,(t0 17)),(4,1,(.const (.bool true)))]]++sq 7 [.alloc 7 87 [.sl 0 (some true) [],.sl 0 (some true) [],.sl 0 (some true) [],.sl 0 (some true) [],.lit (.bool false)]]++s0 (sr 5 7 18))) (.seq (.seq (.ie (sq 8 [mi 0])) (.block 0 (.loop (.seq (.seq (.ie (sq 19 [mv 8,fa 0 7,ld 20,ln 21,bn .lss 19 22])) (.cond (t0 23) .skip (.exit 0))) (.seq (.block 1 (.seq (.seq (.ie (sq 26 [fa 3 7,ld 26,mv 8,ix 1 27 28,ld 29,mv 2,bn .eql 30 31])) (.cond (t0 32) (.exit 1) .skip)) (.seq (.draw (sq 33 [la 2 3,fa 0 7,ld 34,mv 8,ix 1 35 36,ld 37,cf 100 [33,38]]++sq 9 [mv 39]) [[],[],[1],[],[2,3],[4],[0,5],[6,6,0,1,2,3,4,5,6]]) (.seq (.ie (sq 10 [mi 0])) (.block 2 (.loop (.seq (.seq (.ie (sq 40 [mv 10,mv 9,ln 41,bn .lss 40 42])) (.cond (t0 43) .skip (.exit 2))) (.seq (.block 3 (.seq (.seq (.draw (sq 46 [fa 0 7,ld 46,mv 9,mv 10,ix 3 48 49,fa 2 50,ld 51,cf 101 [47,52],bi .geq 53 0]) [[],[0],[],[],[2,3],[4],[5],[1,6],[7]]) (.cond (t0 54) (.exit 3) .skip)) (.seq (.seq (.ie (sq 55 [fa 0 7,ld 55,ln 56,bi .eql 57 60])) (.cond (t0 58) (.seq (.ie (sq 59 [fa 4 7]++s0 (.store 1 (t0 59) (.const (.bool false))))) (.seq (.ie (sq 60 [la 5 7]++s0 (sr 5 6 60))) .ret)) .skip)) (.seq (.draw (sq 61 [fa 0 7,ld 61,mv 9,mv 10,ix 3 63 64,fa 2 65,ld 66,.mD 68 27 1 [(t0 67)],ap 69 27 1 24 62 68,fa 0 7]++s0 (sr 1 70 69)) [[],[0],[],[],[2,3],[4],[5],[6],[1,7],[0,1,2,3,4,5,6,7,8],[9,8,8,0,1,2,3,4,5,6,7,8]]) (.seq (.ie (sq 71 [fa 1 7,ld 71,mv 8,.mD 74 2 1 [(t0 73)],ap 75 2 1 8 72 74,fa 1 7]++s0 (sr 1 76 75))) (.seq (.draw (sq 77 [fa 2 7,ld 77,mv 9,mv 10,ix 3 79 80,la 3 81,.mD 83 123 3 [(t0 82)],ap 84 123 3 40 78 83,fa 2 7]++s0 (sr 1 85 84)) [[],[0],[],[],[2,3],[4],[5],[1,6],[0,1,2,3,4,5,6,7],[8,7,7,0,1,2,3,4,5,6,7]]) (.draw (sq 86 [fa 3 7,ld 86,fa 3 7,ld 88,mv 8,ix 1 89 90,ld 91,bi .add 92 1,.mD 94 2 1 [(t0 93)],ap 95 2 1 8 87 94,fa 3 7]++s0 (sr 1 96 95)) [[],[0],[],[2],[],[3,4],[5],[6],[7],[1,8],[0,1,2,3,4,5,6,7,8,9],[10,9,9,0,1,2,3,4,5,6,7,8,9]]))))))) (.ie (sq 44 [mv 10,bi .add 44 1]++sq 10 [mv 45])))))))))) (.ie (sq 24 [mv 8,bi .add 24 1]++sq 8 [mv 25]))))))) (.seq (.ie (sq 97 [la 5 7]++s0 (sr 5 6 97))) .ret))))
theorem ZC:kS Tryz.prog 51 X9 98 [.cell 6 5 true]:=mf Tryz.func51 Tryz.ntmps51
def nc(i:Int)(r_1:gV):gZ->Option (gZ⊕(gZ⊕gY))
 |(k,f_4,f_5,f_6,f_7)=>
  if(decide (k<(r_1.length:Int)))=true then
   if 0<=k/\k<(r_1.length:Int)then
    (nD f_4 ((r_1.getD k.toNat default).2.2)).bind fun r_2=>
    if(decide (0<=r_2))=true then
     some (.inl ((IntKind.i64.wrap (k+1)),f_4,f_5,f_6,f_7))
    else
     if((f_4.length:Int)==60)=true then
      Option.map Sum.inr (
       Option.map Sum.inr (
        some (f_4,f_5,f_6,f_7,false)))
     else
      if 0<=k/\k<(r_1.length:Int)then
       if(f_4.length+1)*24<=140737488355328 then
        if(f_5.length+1)*8<=140737488355328 then
         if 0<=k/\k<(r_1.length:Int)then
          if(f_6.length+1)*40<=140737488355328 then
           if 0<=i/\i<(f_7.length:Int)then
            if(f_7.length+1)*8<=140737488355328 then
             some (.inl ((IntKind.i64.wrap (k+1)),(f_4++[(r_1.getD k.toNat default).2.2]),(f_5++[i]),(f_6++[((r_1.getD k.toNat default).1,(r_1.getD k.toNat default).2.1,(r_1.getD k.toNat default).2.2)]),(f_7++[(IntKind.i64.wrap ((f_7.getD i.toNat default)+1))])))
            else none
           else none
          else none
         else none
        else none
       else none
      else none
   else none
  else
   Option.map Sum.inr (
    some (.inl ((IntKind.i64.wrap (i+1)),f_4,f_5,f_6,f_7)))
def lV(sys:gR)(steps:Int):gZ->Option (gZ⊕gY)
 |(i,f,f_1,f_2,f_3)=>
  if(decide (i<(f.length:Int)))=true then
   if 0<=i/\i<(f_3.length:Int)then
    if((f_3.getD i.toNat default)==steps)=true then
     some (.inl ((IntKind.i64.wrap (i+1)),f,f_1,f_2,f_3))
    else
     if 0<=i/\i<(f.length:Int)then
      (qw sys (f.getD i.toNat default)).bind fun r_1=>
      iB (nc i r_1) (0,f,f_1,f_2,f_3)
     else none
   else none
  else
   Option.map Sum.inr (
    some (f,f_1,f_2,f_3,true))
def rG(sys:gR)(t:gB)(steps:Int):Option gY:=
 (jK t).bind fun r=>
 iB (lV sys steps) (0,[r],[(-1)],[(0,0,[])],[0])
instance PZ{sys:gR}{t:gB}{steps:Int}:iU (rG sys t steps) fun rr=>jW Tryz.prog 51 [iC sys,(iq 1 iD) t,iD steps] (vb rr):=⟨@fun rr h=>by
 delta rG at h;refine ZC.jz (ia ?_);delta X9;refine iR ?_;refine qC [] [(3,12)] h fun r hr h=>?_
 refine kA h [8,9,10,19,20,21,22,23,24,25,26,27,28,29,30,31,32,33,34,35,36,37,38,39,40,41,42,43,44,45,46,47,48,49,50,51,52,53,54,55,56,57,58,59,60,61,62,63,64,65,66,67,68,69,70,71,72,73,74,75,76,77,78,79,80,81,82,83,84,85,86,87,88,89,90,91,92,93,94,95,96] (fun pp=>[(8,.d (iD pp.1))]) (fun pp=>[(3,.obj 32 [.d (iq 1 iD sys.1),.d (iq 2 ic sys.2)]),(6,.obj 87 [.d (.sl 0 (some true) []),.d (.sl 0 (some true) []),.d (.sl 0 (some true) []),.d (.sl 0 (some true) []),.d (bD false)]),(7,.obj 87 [.own 1 13 (List.map (iq 1 iD) pp.2.1),.own 1 14 (List.map iD pp.2.2.1),.own 3 16 (List.map nT pp.2.2.2.1),.own 1 17 (List.map iD pp.2.2.2.2),.d (bD true)]),(12,.tok 2 1 r.length),(13,.tok 27 1 pp.2.1.length),(14,.tok 2 1 pp.2.2.1.length),(16,.tok 123 3 pp.2.2.2.1.length),(17,.tok 2 1 pp.2.2.2.2.length)]) ?_;rintro⟨i,f,f_1,f_2,f_3⟩ t1 h hb1;unfold lV at h;try dsimp only at h
 refine ia (iR ?_);refine iT h fun hc h=>?_
 refine kz h fun hp h=>?_
 refine iF h fun hc h=>?_
 refine kz h fun hp h=>?_
 refine dC h fun r_1 hr_1 h=>?_
 refine jM (by kernel_rfl) (iR ?_);refine kA h [10,40,41,42,43,44,45,46,47,48,49,50,51,52,53,54,55,56,57,58,59,60,61,62,63,64,65,66,67,68,69,70,71,72,73,74,75,76,77,78,79,80,81,82,83,84,85,86,87,88,89,90,91,92,93,94,95,96] (fun pp=>[(10,.d (iD pp.1))]) (fun pp=>[(3,.obj 32 [.d (iq 1 iD sys.1),.d (iq 2 ic sys.2)]),(6,.obj 87 [.d (.sl 0 (some true) []),.d (.sl 0 (some true) []),.d (.sl 0 (some true) []),.d (.sl 0 (some true) []),.d (bD false)]),(7,.obj 87 [.own 1 13 (List.map (iq 1 iD) pp.2.1),.own 1 14 (List.map iD pp.2.2.1),.own 3 16 (List.map nT pp.2.2.2.1),.own 1 17 (List.map iD pp.2.2.2.2),.d (bD true)]),(12,.tok 2 1 r.length),(13,.tok 27 1 pp.2.1.length),(14,.tok 2 1 pp.2.2.1.length),(16,.tok 123 3 pp.2.2.2.1.length),(17,.tok 2 1 pp.2.2.2.2.length)]) ?_;rintro⟨k,f_4,f_5,f_6,f_7⟩ t2 h hb2;unfold nc at h;try dsimp only at h
 refine ia (iR ?_);refine iT h fun hc h=>?_
 refine kz h fun hp h=>?_
 refine dC h fun r_2 hr_2 h=>?_
 refine jM (by kernel_rfl) (iR ?_);refine iF h fun hc h=>?_
 refine iF h fun hc h=>?_
 refine kz h fun hp h=>?_
 refine kz h fun hp h=>?_
 refine jM (by kernel_rfl) (iR ?_);refine kz h fun hp h=>?_
 refine kz h fun hp h=>?_
 refine kz h fun hp h=>?_
 refine jM (by kernel_rfl) (iR ?_);refine kz h fun hp h=>?_
 refine kz h fun hp h=>?_
 refine jM (by kernel_rfl) (iR ?_);cases h;refine⟨_,rfl,?_⟩;refine(iV.drop 68 h_).trans ?_;refine(iV.drop 74 h_).trans ?_;refine(iV.drop 83 h_).trans ?_;refine(iV.drop 94 h_).trans ?_;exact wk⟩
def X_:ir:=
 (.seq (.ie (sq 2 [bo 2 32 0]++sq 4 [mb false])) (.seq (.ie (sq 5 [la 2 2,mv 1,cf 85 [5,6],mv 7]++sg 8 true 9 [la 2 2,mv 1,cf 102 [9,10],bi .eql 11 0]++sq 13 [pa 8 12]++sq 4 [mv 13])) .ret))
theorem ZD:kS Tryz.prog 52 X_ 14 [.tmp 4]:=mf Tryz.func52 Tryz.ntmps52
def pS(sys:gR)(t:gB):Option Bool:=
 (mq sys t).bind fun r=>
 if r=true then
  (oN sys t).bind fun r_1=>
  some (r_1==0)
 else
  some false
instance Mr{sys:gR}{t:gB}:iU (pS sys t) fun rr=>jW Tryz.prog 52 [iC sys,(iq 1 iD) t] (bD rr):=⟨@fun rr h=>by
 delta pS at h;refine ZD.jz (ia ?_);delta X_;refine iR ?_;exact lP⟩
def XS:ir:=
 (.seq (.ie (sq 3 [bo 3 32 0]++sq 6 [.mv (.const (.slice none 0 0))])) (.seq (.ie (sq 10 [.mD 10 27 1 []]++sq 7 [mv 10])) (.seq (.seq (.ie (sq 11 [la 2 3,mv 1,mv 2,cf 50 [11,12,13],nt 14])) (.cond (t0 15) (.seq (.ie (sq 16 [mv 7]++sq 6 [mv 16])) .ret) .skip)) (.seq (.ie (sq 17 [la 2 3,mv 1,mv 2,cf 51 [17,18,19]]++sq 8 [.alloc 8 87 [.sl 0 (some true) [],.sl 0 (some true) [],.sl 0 (some true) [],.sl 0 (some true) [],.lit (.bool false)]]++s0 (sr 5 8 20))) (.seq (.seq (.ie (sq 9 [mi 0])) (.block 0 (.loop (.seq (.seq (.ie (sq 21 [mv 9,fa 0 8,ld 22,ln 23,bn .lss 21 24])) (.cond (t0 25) .skip (.exit 0))) (.seq (.block 1 (.seq (.draw (sq 28 [la 2 3,fa 0 8,ld 29,mv 9,ix 1 30 31,ld 32,cf 52 [28,33]]) [[],[],[1],[],[2,3],[4],[0,5]]) (.cond (t0 34) (.ie (sq 35 [mv 7,fa 0 8,ld 36,mv 9,ix 1 37 38,ld 39,cf 53 [40],.mD 42 27 1 [(t0 41)],ap 43 27 1 24 35 42]++sq 7 [mv 43])) .skip))) (.ie (sq 26 [mv 9,bi .add 26 1]++sq 9 [mv 27]))))))) (.seq (.ie (sq 44 [mv 7]++sq 6 [mv 44])) .ret))))))
theorem Zm:kS Tryz.prog 13 XS 45 [.tmp 6]:=mf Tryz.func13 Tryz.ntmps13
def oD(sys:gR)(r_1:gY):(gE×Int)->Option ((gE×Int)⊕gE)
 |(out,i)=>
  if(decide (i<(r_1.1.length:Int)))=true then
   if 0<=i/\i<(r_1.1.length:Int)then
    (pS sys (r_1.1.getD i.toNat default)).bind fun r_2=>
    if r_2=true then
     if 0<=i/\i<(r_1.1.length:Int)then
      (jK (r_1.1.getD i.toNat default)).bind fun r_3=>
      if(out.length+1)*24<=140737488355328 then
       some (.inl ((out++[r_3]),(IntKind.i64.wrap (i+1))))
      else none
     else none
    else
     some (.inl (out,(IntKind.i64.wrap (i+1))))
   else none
  else
   Option.map Sum.inr (
    some out)
def kZ(sys:gR)(t:gB)(steps:Int):Option gE:=
 (qx sys t steps).bind fun r=>
 if r=true then
  (rG sys t steps).bind fun r_1=>
  iB (oD sys r_1) ([],0)
 else
  some []
instance KZ{sys:gR}{t:gB}{steps:Int}:iU (kZ sys t steps) fun rr=>jW Tryz.prog 13 [iC sys,(iq 1 iD) t,iD steps] ((iq 1 (iq 1 iD)) rr):=⟨@fun rr h=>by
 delta kZ at h;refine Zm.jz (ia ?_);delta XS;refine iR ?_;refine rC h fun r hr h=>?_
 refine iT h fun hc h=>?_
 refine rC h fun r_1 hr_1 h=>?_
 refine kA h [7,9,21,22,23,24,25,26,27,28,29,30,31,32,33,34,35,36,37,38,39,40,41,42,43] (fun pp=>[(7,.own 1 10 (List.map (iq 1 iD) pp.1)),(9,.d (iD pp.2))]) (fun pp=>[(3,.obj 32 [.d (iq 1 iD sys.1),.d (iq 2 ic sys.2)]),(8,.obj 87 [.d (iq 1 (iq 1 iD) r_1.1),.d (iq 1 iD r_1.2.1),.d (iq 3 nT r_1.2.2.1),.d (iq 1 iD r_1.2.2.2.1),.d (bD r_1.2.2.2.2)]),(10,.tok 27 1 pp.1.length)]) ?_;rintro⟨out,i⟩ t1 h hb1;unfold oD at h;try dsimp only at h
 refine ia (iR ?_);refine iT h fun hc h=>?_
 refine kz h fun hp h=>?_
 refine dC h fun r_2 hr_2 h=>?_
 refine jM (by kernel_rfl) (iR ?_);refine iT h fun hc h=>?_
 refine kz h fun hp h=>?_
 refine qC [] [(3,41)] h fun r_3 hr_3 h=>?_
 refine kz h fun hp h=>?_
 cases h;refine⟨_,rfl,?_⟩;refine(iV.drop 41 h_).trans ?_;refine(iV.drop 42 h_).trans ?_;exact wk⟩
end Go.Proofs.YtjgbnaihpicpgaaGreat
