/- A part of the proof about FnExactJoinsAll (J2). -/
import Derived.Test.YtjgbnaihpicpgaaGreatDoorTf
import Derived.Test.YtjgbnaihpicpgaaGreatDoorTg
set_option linter.all false
noncomputable section
namespace Go.Proofs.YtjgbnaihpicpgaaGreatDoor
open Go lY
attribute [local irreducible] rA vi uM lW lP ng jX Ak Bj yP Bi yF tw lK nO A7 iG kj
set_option maxHeartbeats 4000000
set_option maxRecDepth 4000
def rF(x:gD):D:=.agg [(gS 1 (gS 1 iD)) x.1,(gS 1 iD) x.2.1,(gS 3 iq) x.2.2.1,(gS 1 iD) x.2.2.2.1,bD x.2.2.2.2]
instance:sU rF 5:=⟨fun _=>rfl⟩
attribute [go_sem] rF
def WC:gV:=
 (.seq (.gQ (sq 1 [bo 1 33 0,.mv (.const (.slice none 0 0)),mb false])) (.seq (.seq (.gQ (sq 4 [la 2 1,cf 44 [4],nt 5])) (.cond (t0 6) (.seq (.gQ (sq 7 [.pF 7 54 6 []]++sq 2 [mv 7,mb false])) .ret) .skip)) (.seq (.gQ (sq 8 [la 2 1,cf 45 [8],ex 9 0,ex 9 1]++sq 2 [mv 10,mv 11])) .ret)))
theorem Yv:jV Tryz.prog 15 WC 12 [.tmp 2,.tmp 3]:=mf Tryz.func15 Tryz.ntmps15
def om(sys:gC):Option (gy×Bool):=
 (nC sys).bind fun r=>
 if r=true then
  (sV sys).bind fun r_1=>
  some r_1
 else
  some ([],false)
instance Mh{sys:gC}:iH (om sys) fun rr=>oF Tryz.prog 15 [ia sys] [(gS 6 jz) rr.1,bD rr.2]:=⟨@fun rr h=>by
 delta om at h;refine Yv.pG (gO ?_);delta WC;refine iE ?_;exact nr⟩
def WH:gV:=
 (.seq (.gQ (sq 2 [mb false])) (.seq (.gQ (sq 3 [mv 0,.me 61 [(t0 3),(i0 0),(i0 20)]]++sq 2 [mv 4])) .ret))
theorem Yz:jV Tryz.prog 29 WH 5 [.tmp 2]:=mf Tryz.func29 Tryz.ntmps29
def oU(steps:Int):Option Bool:=
 (ki steps 0 20).bind fun r=>
 some r
instance LD{steps:Int}:iH (oU steps) fun rr=>jF Tryz.prog 29 [iD steps] (bD rr):=⟨@fun rr h=>by
 delta oU at h;refine Yz.jf (gO ?_);delta WH;refine iE ?_;exact nr⟩
def WS:gV:=
 (.seq (.gQ (sq 2 [bo 2 33 0]++sq 4 [mb false])) (.seq (.gQ (sq 5 [la 2 2,cf 44 [5],mv 6]++sg 7 true 8 [fa 0 2,la 1 8,mv 1,cf 84 [9,10]]++sq 12 [pa 7 11]++sq 4 [mv 12])) .ret))
theorem YJ:jV Tryz.prog 49 WS 13 [.tmp 4]:=mf Tryz.func49 Tryz.ntmps49
def rU(sys:gC)(t:gk):Option Bool:=
 (nC sys).bind fun r=>
 if r=true then
  (nT sys.1 t).bind fun r_1=>
  some r_1
 else
  some false
instance Mr{sys:gC}{t:gk}:iH (rU sys t) fun rr=>jF Tryz.prog 49 [ia sys,(gS 1 iD) t] (bD rr):=⟨@fun rr h=>by
 delta rU at h;refine YJ.jf (gO ?_);delta WS;refine iE ?_;exact nr⟩
def Sd:gV:=
 (.seq (.gQ (sq 3 [bo 3 33 0]++sq 6 [mb false])) (.seq (.gQ (sq 7 [la 2 3,mv 1,cf 49 [7,8],mv 9]++sg 10 true 11 [mv 2,.me 61 [(t0 11),(i0 0),(i0 20)]]++sq 13 [pa 10 12]++sq 6 [mv 13])) .ret))
theorem VK:jV Tryz.prog 123 Sd 14 [.tmp 6]:=mf Tryz.func123 Tryz.ntmps123
def ox(sys:gC)(t:gk)(steps:Int):Option Bool:=
 (rU sys t).bind fun r=>
 if r=true then
  (ki steps 0 20).bind fun r_1=>
  some r_1
 else
  some false
instance Mt{sys:gC}{t:gk}{steps:Int}:iH (ox sys t steps) fun rr=>jF Tryz.prog 123 [ia sys,(gS 1 iD) t,iD steps] (bD rr):=⟨@fun rr h=>by
 delta ox at h;refine VK.jf (gO ?_);delta Sd;refine iE ?_;exact nr⟩
def Sf:gV:=
 (.seq (.gQ (sq 4 [mi 0])) (.seq (.seq (.gQ (sq 5 [mi 0])) (.block 0 (.loop (.seq (.seq (.gQ (sq 6 [mv 5,mv 0,ln 7,bn .lss 6 8])) (.cond (t0 9) .skip (.exit 0))) (.seq (.block 1 (.seq (.gQ (sq 12 [mv 0,mv 5,ix 1 12 13,ld 14,mv 1,cf 51 [15,16]])) (.cond (t0 17) (.seq (.gQ (sq 18 [mv 5]++sq 4 [mv 18])) .ret) .skip))) (.gQ (sq 10 [mv 5,bi .add 10 1]++sq 5 [mv 11]))))))) (.seq (.gQ (sq 4 [mi (-1)])) .ret)))
theorem VM:jV Tryz.prog 125 Sf 19 [.tmp 4]:=mf Tryz.func125 Tryz.ntmps125
def nc(list:gp)(t:gk):Int->Option (Int⊕Int)
 |i=>
  if(decide (i<(list.length:Int)))=true then
   if 0<=i/\i<(list.length:Int)then
    (nB (list.getD i.toNat default) t).bind fun r=>
    if r=true then
     Option.map Sum.inr (
      some i)
    else
     some (.inl (IntKind.i64.wrap (i+1)))
   else none
  else
   Option.map Sum.inr (
    some (-1))
def k_(list:gp)(t:gk):Option Int:=
 g_ (nc list t) 0
instance Hg{list:gp}{t:gk}:iH (k_ list t) fun rr=>jF Tryz.prog 125 [(gS 1 (gS 1 iD)) list,(gS 1 iD) t] (iD rr):=⟨@fun rr h=>by
 delta k_ at h;refine VM.jf (gO ?_);delta Sf;refine iE ?_;refine kT h [4,5,6,7,8,9,10,11,12,13,14,15,16,17,18] (fun pp=>[(5,.d (iD pp))]) (fun pp=>[]) ?_;rintro i t1 h hb1;unfold nc at h;try dsimp only at h
 refine gO (iE ?_);exact nr⟩
def Se:gV:=
 (.seq (.gQ (sq 3 [bo 3 33 0]++sq 6 [.alloc 6 188 [.sl 0 (some true) [],.sl 0 (some true) [],.sl 0 (some true) [],.sl 0 (some true) [],.lit (.bool false)]])) (.seq (.gQ (sq 11 [mv 1,cf 87 [11],.pF 13 22 1 [(t0 12)],.pF 14 2 1 [(i0 (-1))],.build [.lit (.int .i64 0),.lit (.int .i64 0),.sl 0 (some true) []] [],.pF 16 95 3 [(t0 15)],.pF 17 2 1 [(i0 0)],.build [.sl 0 (some true) [],.sl 0 (some true) [],.sl 0 (some true) [],.sl 0 (some true) [],.lit (.bool false)] [(0,1,(t0 13)),(1,1,(t0 14)),(2,1,(t0 16)),(3,1,(t0 17)),(4,1,(.const (.bool true)))]]++sq 7 [.alloc 7 188 [.sl 0 (some true) [],.sl 0 (some true) [],.sl 0 (some true) [],.sl 0 (some true) [],.lit (.bool false)]]++s0 (sr 5 7 18))) (.seq (.seq (.gQ (sq 8 [mi 0])) (.block 0 (.loop (.seq (.seq (.gQ (sq 19 [mv 8,fa 0 7,ld 20,ln 21,bn .lss 19 22])) (.cond (t0 23) .skip (.exit 0))) (.seq (.block 1 (.seq (.seq (.gQ (sq 26 [fa 3 7,ld 26,mv 8,ix 1 27 28,ld 29,mv 2,bn .eql 30 31])) (.cond (t0 32) (.exit 1) .skip)) (.seq (.draw (sq 33 [la 2 3,fa 0 7,ld 34,mv 8,ix 1 35 36,ld 37,cf 143 [33,38]]++sq 9 [mv 39]) [[],[],[1],[],[2,3],[4],[0,5],[6,6,0,1,2,3,4,5,6]]) (.seq (.gQ (sq 10 [mi 0])) (.block 2 (.loop (.seq (.seq (.gQ (sq 40 [mv 10,mv 9,ln 41,bn .lss 40 42])) (.cond (t0 43) .skip (.exit 2))) (.seq (.block 3 (.seq (.seq (.draw (sq 46 [fa 0 7,ld 46,mv 9,mv 10,ix 3 48 49,fa 2 50,ld 51,cf 125 [47,52],bi .geq 53 0]) [[],[0],[],[],[2,3],[4],[5],[1,6],[7]]) (.cond (t0 54) (.exit 3) .skip)) (.seq (.seq (.gQ (sq 55 [fa 0 7,ld 55,ln 56,bi .eql 57 60])) (.cond (t0 58) (.seq (.gQ (sq 59 [fa 4 7]++s0 (.store 1 (t0 59) (.const (.bool false))))) (.seq (.gQ (sq 60 [la 5 7]++s0 (sr 5 6 60))) .ret)) .skip)) (.seq (.draw (sq 61 [fa 0 7,ld 61,mv 9,mv 10,ix 3 63 64,fa 2 65,ld 66,.pF 68 22 1 [(t0 67)],ap 69 22 1 24 62 68,fa 0 7]++s0 (sr 1 70 69)) [[],[0],[],[],[2,3],[4],[5],[6],[1,7],[0,1,2,3,4,5,6,7,8],[9,8,8,0,1,2,3,4,5,6,7,8]]) (.seq (.gQ (sq 71 [fa 1 7,ld 71,mv 8,.pF 74 2 1 [(t0 73)],ap 75 2 1 8 72 74,fa 1 7]++s0 (sr 1 76 75))) (.seq (.draw (sq 77 [fa 2 7,ld 77,mv 9,mv 10,ix 3 79 80,la 3 81,.pF 83 95 3 [(t0 82)],ap 84 95 3 40 78 83,fa 2 7]++s0 (sr 1 85 84)) [[],[0],[],[],[2,3],[4],[5],[1,6],[0,1,2,3,4,5,6,7],[8,7,7,0,1,2,3,4,5,6,7]]) (.draw (sq 86 [fa 3 7,ld 86,fa 3 7,ld 88,mv 8,ix 1 89 90,ld 91,bi .add 92 1,.pF 94 2 1 [(t0 93)],ap 95 2 1 8 87 94,fa 3 7]++s0 (sr 1 96 95)) [[],[0],[],[2],[],[3,4],[5],[6],[7],[1,8],[0,1,2,3,4,5,6,7,8,9],[10,9,9,0,1,2,3,4,5,6,7,8,9]]))))))) (.gQ (sq 44 [mv 10,bi .add 44 1]++sq 10 [mv 45])))))))))) (.gQ (sq 24 [mv 8,bi .add 24 1]++sq 8 [mv 25]))))))) (.seq (.gQ (sq 97 [la 5 7]++s0 (sr 5 6 97))) .ret))))
theorem VL:jV Tryz.prog 124 Se 98 [.cell 6 5 true]:=mf Tryz.func124 Tryz.ntmps124
def mF(i:Int)(r_1:gx):gL->Option (gL⊕(gL⊕gD))
 |(k,f_4,f_5,f_6,f_7)=>
  if(decide (k<(r_1.length:Int)))=true then
   if 0<=k/\k<(r_1.length:Int)then
    (k_ f_4 ((r_1.getD k.toNat default).2.2)).bind fun r_2=>
    if(decide (0<=r_2))=true then
     some (.inl ((IntKind.i64.wrap (k+1)),f_4,f_5,f_6,f_7))
    else
     if((f_4.length:Int)==60)=true then
      Option.map Sum.inr (
       Option.map Sum.inr (
        some (f_4,f_5,f_6,f_7,false)))
     else
      if 0<=k/\k<(r_1.length:Int)then
       if(f_4.length+1)*24<=140737488355328 then
        if(f_5.length+1)*8<=140737488355328 then
         if 0<=k/\k<(r_1.length:Int)then
          if(f_6.length+1)*40<=140737488355328 then
           if 0<=i/\i<(f_7.length:Int)then
            if(f_7.length+1)*8<=140737488355328 then
             some (.inl ((IntKind.i64.wrap (k+1)),(f_4++[(r_1.getD k.toNat default).2.2]),(f_5++[i]),(f_6++[((r_1.getD k.toNat default).1,(r_1.getD k.toNat default).2.1,(r_1.getD k.toNat default).2.2)]),(f_7++[(IntKind.i64.wrap ((f_7.getD i.toNat default)+1))])))
            else none
           else none
          else none
         else none
        else none
       else none
      else none
   else none
  else
   Option.map Sum.inr (
    some (.inl ((IntKind.i64.wrap (i+1)),f_4,f_5,f_6,f_7)))
def lg(sys:gC)(steps:Int):gL->Option (gL⊕gD)
 |(i,f,f_1,f_2,f_3)=>
  if(decide (i<(f.length:Int)))=true then
   if 0<=i/\i<(f_3.length:Int)then
    if((f_3.getD i.toNat default)==steps)=true then
     some (.inl ((IntKind.i64.wrap (i+1)),f,f_1,f_2,f_3))
    else
     if 0<=i/\i<(f.length:Int)then
      (p_ sys (f.getD i.toNat default)).bind fun r_1=>
      g_ (mF i r_1) (0,f,f_1,f_2,f_3)
     else none
   else none
  else
   Option.map Sum.inr (
    some (f,f_1,f_2,f_3,true))
def pg(sys:gC)(t:gk)(steps:Int):Option gD:=
 (kC t).bind fun r=>
 g_ (lg sys steps) (0,[r],[(-1)],[(0,0,[])],[0])
instance OT{sys:gC}{t:gk}{steps:Int}:iH (pg sys t steps) fun rr=>jF Tryz.prog 124 [ia sys,(gS 1 iD) t,iD steps] (rF rr):=⟨@fun rr h=>by
 delta pg at h;refine VL.jf (gO ?_);delta Se;refine iE ?_;refine vf [] [(3,12)] h fun r hr h=>?_
 refine kT h [8,9,10,19,20,21,22,23,24,25,26,27,28,29,30,31,32,33,34,35,36,37,38,39,40,41,42,43,44,45,46,47,48,49,50,51,52,53,54,55,56,57,58,59,60,61,62,63,64,65,66,67,68,69,70,71,72,73,74,75,76,77,78,79,80,81,82,83,84,85,86,87,88,89,90,91,92,93,94,95,96] (fun pp=>[(8,.d (iD pp.1))]) (fun pp=>[(3,.obj 33 [.d (gS 1 iD sys.1),.d (gS 2 gP sys.2)]),(6,.obj 188 [.d (.sl 0 (some true) []),.d (.sl 0 (some true) []),.d (.sl 0 (some true) []),.d (.sl 0 (some true) []),.d (bD false)]),(7,.obj 188 [.own 1 13 (List.map (gS 1 iD) pp.2.1),.own 1 14 (List.map iD pp.2.2.1),.own 3 16 (List.map iq pp.2.2.2.1),.own 1 17 (List.map iD pp.2.2.2.2),.d (bD true)]),(12,.tok 2 1 r.length),(13,.tok 22 1 pp.2.1.length),(14,.tok 2 1 pp.2.2.1.length),(16,.tok 95 3 pp.2.2.2.1.length),(17,.tok 2 1 pp.2.2.2.2.length)]) ?_;rintro⟨i,f,f_1,f_2,f_3⟩ t1 h hb1;unfold lg at h;try dsimp only at h
 refine gO (iE ?_);refine iT h fun hc h=>?_
 refine jG h fun hp h=>?_
 refine iF h fun hc h=>?_
 refine jG h fun hp h=>?_
 refine dC h fun r_1 hr_1 h=>?_
 refine jy (by kernel_rfl) (iE ?_);refine kT h [10,40,41,42,43,44,45,46,47,48,49,50,51,52,53,54,55,56,57,58,59,60,61,62,63,64,65,66,67,68,69,70,71,72,73,74,75,76,77,78,79,80,81,82,83,84,85,86,87,88,89,90,91,92,93,94,95,96] (fun pp=>[(10,.d (iD pp.1))]) (fun pp=>[(3,.obj 33 [.d (gS 1 iD sys.1),.d (gS 2 gP sys.2)]),(6,.obj 188 [.d (.sl 0 (some true) []),.d (.sl 0 (some true) []),.d (.sl 0 (some true) []),.d (.sl 0 (some true) []),.d (bD false)]),(7,.obj 188 [.own 1 13 (List.map (gS 1 iD) pp.2.1),.own 1 14 (List.map iD pp.2.2.1),.own 3 16 (List.map iq pp.2.2.2.1),.own 1 17 (List.map iD pp.2.2.2.2),.d (bD true)]),(12,.tok 2 1 r.length),(13,.tok 22 1 pp.2.1.length),(14,.tok 2 1 pp.2.2.1.length),(16,.tok 95 3 pp.2.2.2.1.length),(17,.tok 2 1 pp.2.2.2.2.length)]) ?_;rintro⟨k,f_4,f_5,f_6,f_7⟩ t2 h hb2;unfold mF at h;try dsimp only at h
 refine gO (iE ?_);refine iT h fun hc h=>?_
 refine jG h fun hp h=>?_
 refine dC h fun r_2 hr_2 h=>?_
 refine jy (by kernel_rfl) (iE ?_);refine iF h fun hc h=>?_
 refine iF h fun hc h=>?_
 refine jG h fun hp h=>?_
 refine jG h fun hp h=>?_
 refine jy (by kernel_rfl) (iE ?_);refine jG h fun hp h=>?_
 refine jG h fun hp h=>?_
 refine jG h fun hp h=>?_
 refine jy (by kernel_rfl) (iE ?_);refine jG h fun hp h=>?_
 refine jG h fun hp h=>?_
 refine jy (by kernel_rfl) (iE ?_);cases h;refine⟨_,rfl,?_⟩;refine(ij.drop 68 gN).trans ?_;refine(ij.drop 74 gN).trans ?_;refine(ij.drop 83 gN).trans ?_;refine(ij.drop 94 gN).trans ?_;exact wk⟩
def Sg:gV:=
 (.seq (.gQ (sq 2 [bo 2 188 0]++sq 4 [.alloc 4 50 [.sl 0 (some true) [],.sl 0 (some true) []]])) (.seq (.gQ (sq 8 [.pF 8 95 3 []]++sq 5 [mv 8])) (.seq (.block 0 (.loop (.seq (.seq (.gQ (sq 9 [fa 1 2,ld 9,mv 1,ix 1 10 11,ld 12,bi .geq 13 0])) (.cond (t0 14) .skip (.exit 0))) (.block 1 (.seq (.gQ (sq 15 [mv 5,fa 2 2,ld 16,mv 1,ix 3 17 18,la 3 19,.pF 21 95 3 [(t0 20)],ap 22 95 3 40 15 21]++sq 5 [mv 22])) (.gQ (sq 23 [fa 1 2,ld 23,mv 1,ix 1 24 25,ld 26]++sq 1 [mv 27]))))))) (.seq (.gQ (sq 28 [fa 0 2,ld 28,.tg 1 (t0 29) (i0 0),ld 30,cf 87 [31],.build [.sl 0 (some true) [],.sl 0 (some true) []] [(0,1,(t0 32))]]++sq 6 [.alloc 6 50 [.sl 0 (some true) [],.sl 0 (some true) []]]++s0 (sr 2 6 33))) (.seq (.seq (.gQ (sq 34 [mv 5,ln 34,bi .sub 35 1]++sq 7 [mv 36])) (.block 2 (.loop (.seq (.seq (.gQ (sq 37 [mv 7,bi .geq 37 0])) (.cond (t0 38) .skip (.exit 2))) (.seq (.block 3 (.draw (sq 41 [fa 1 6,ld 41,mv 5,mv 7,ix 3 43 44,fa 0 45,ld 46,mv 5,mv 7,ix 3 48 49,fa 1 50,ld 51,mv 5,mv 7,ix 3 53 54,fa 2 55,ld 56,cf 87 [57],.build [.lit (.int .i64 0),.lit (.int .i64 0),.sl 0 (some true) []] [(0,1,(t0 47)),(1,1,(t0 52)),(2,1,(t0 58))],.pF 60 95 3 [(t0 59)],ap 61 95 3 40 42 60,fa 1 6]++s0 (sr 1 62 61)) [[],[0],[],[],[2,3],[4],[5],[],[],[7,8],[9],[10],[],[],[12,13],[14],[15],[16],[6,11,17],[18],[1,19,17],[0,1,2,3,4,5,6,7,8,9,10,11,12,13,14,15,16,17,18,19,20],[21,20,20,0,1,2,3,4,5,6,7,8,9,10,11,12,13,14,15,16,17,18,19,20]])) (.gQ (sq 39 [mv 7,bi .sub 39 1]++sq 7 [mv 40]))))))) (.seq (.gQ (sq 63 [la 2 6]++s0 (sr 2 4 63))) .ret))))))
theorem VN:jV Tryz.prog 126 Sg 64 [.cell 4 2 true]:=mf Tryz.func126 Tryz.ntmps126
def oy(back:gx)(r:gk):(Int×gx)->Option ((Int×gx)⊕gI)
 |(i,w)=>
  if(decide (0<=i))=true then
   if 0<=i/\i<(back.length:Int)then
    if 0<=i/\i<(back.length:Int)then
     if 0<=i/\i<(back.length:Int)then
      (kC ((back.getD i.toNat default).2.2)).bind fun r_1=>
      if(w.length+1)*40<=140737488355328 then
       some (.inl ((IntKind.i64.wrap (i-1)),(w++[((back.getD i.toNat default).1,(back.getD i.toNat default).2.1,r_1)])))
      else none
     else none
    else none
   else none
  else
   Option.map Sum.inr (
    some (r,w))
def mG(f:gD):(Int×gx)->Option ((Int×gx)⊕gI)
 |(at'_1,back)=>
  if 0<=at'_1/\at'_1<(f.2.1.length:Int)then
   if(decide (0<=(f.2.1.getD at'_1.toNat default)))=true then
    if 0<=at'_1/\at'_1<(f.2.2.1.length:Int)then
     if(back.length+1)*40<=140737488355328 then
      if 0<=at'_1/\at'_1<(f.2.1.length:Int)then
       some (.inl ((f.2.1.getD at'_1.toNat default),(back++[((f.2.2.1.getD at'_1.toNat default).1,(f.2.2.1.getD at'_1.toNat default).2.1,(f.2.2.1.getD at'_1.toNat default).2.2)])))
      else none
     else none
    else none
   else
    Option.map Sum.inr (
     if 0<=0/\0<(f.1.length:Int)then
      (kC (f.1.getD 0 default)).bind fun r=>
      g_ (oy back r) ((IntKind.i64.wrap ((back.length:Int)-1)),[])
     else none)
  else none
def pn(f:gD)(at':Int):Option gI:=
 g_ (mG f) (at',[])
instance OU{f:gD}{at':Int}:iH (pn f at') fun rr=>jF Tryz.prog 126 [rF f,iD at'] (lF rr):=⟨@fun rr h=>by
 delta pn at h;refine VN.jf (gO ?_);delta Sg;refine iE ?_;refine kT h [1,5,9,10,11,12,13,14,15,16,17,18,19,20,21,22,23,24,25,26,27] (fun pp=>[(1,.d (iD pp.1)),(5,.own 3 8 (List.map iq pp.2))]) (fun pp=>[(2,.obj 188 [.d (gS 1 (gS 1 iD) f.1),.d (gS 1 iD f.2.1),.d (gS 3 iq f.2.2.1),.d (gS 1 iD f.2.2.2.1),.d (bD f.2.2.2.2)]),(4,.obj 50 [.d (.sl 0 (some true) []),.d (.sl 0 (some true) [])]),(8,.tok 95 3 pp.2.length)]) ?_;rintro⟨at'_1,back⟩ t1 h hb1;unfold mG at h;try dsimp only at h
 refine gO (iE ?_);refine jG h fun hp h=>?_
 refine it h (fun hc h=>?_) fun hc h=>?_
 ·refine jG h fun hp h=>?_
  refine jG h fun hp h=>?_
  refine jG h fun hp h=>?_
  cases h;refine⟨_,rfl,?_⟩;refine(ij.drop 21 gN).trans ?_;exact wk
 replace h:=jg h hb1;refine jG h fun hp h=>?_
 refine vf [] [(3,32)] h fun r hr h=>?_
 refine sW h [7,37,38,39,40,41,42,43,44,45,46,47,48,49,50,51,52,53,54,55,56,57,58,59,60,61,62] (fun pp=>[(7,.d (iD pp.1))]) (fun pp=>[(2,.obj 188 [.d (gS 1 (gS 1 iD) f.1),.d (gS 1 iD f.2.1),.d (gS 3 iq f.2.2.1),.d (gS 1 iD f.2.2.2.1),.d (bD f.2.2.2.2)]),(4,.obj 50 [.d (.sl 0 (some true) []),.d (.sl 0 (some true) [])]),(6,.obj 50 [.own 1 32 (List.map iD r),.own 3 61 (List.map iq pp.2)]),(8,.tok 95 3 back.length),(32,.tok 2 1 r.length),(61,.tok 95 3 pp.2.length)]) ?_ ?_
 ·try dsimp only
  refine(ij.wh 6 1 61 95 3 rfl rfl rfl).trans ?_;exact wk
 rintro⟨i,w⟩ t1 h hb1;unfold oy at h;try dsimp only at h
 refine gO (iE ?_);refine iT h fun hc h=>?_
 refine jG h fun hp h=>?_
 refine jG h fun hp h=>?_
 refine jG h fun hp h=>?_
 refine PM [] [(3,58)] h fun r_1 hr_1 h=>?_
 refine jG h fun hp h=>?_
 refine jy (by kernel_rfl) (iE ?_);cases h;refine⟨_,rfl,?_⟩;refine(ij.drop 58 gN).trans ?_;refine(ij.drop 60 gN).trans ?_;exact wk⟩
def Xn:gV:=
 (.seq (.gQ (sq 4 [bo 4 33 0]++sq 8 [.alloc 8 50 [.sl 0 (some true) [],.sl 0 (some true) []],.alloc 9 50 [.sl 0 (some true) [],.sl 0 (some true) []],mb false])) (.seq (.seq (.gQ (sq 15 [la 2 4,mv 1,mv 3,cf 123 [15,16,17],nt 18,mv 19]++sg 20 false 21 [la 2 4,mv 2,mv 3,cf 123 [21,22,23],nt 24]++sq 26 [po 20 25])) (.cond (t0 26) (.seq (.gQ (sq 27 [.build [.sl 0 (some true) [],.sl 0 (some true) []] [],.build [.sl 0 (some true) [],.sl 0 (some true) []] []]++s0 (sr 2 8 27)++s0 (sr 2 9 28)++sq 10 [mb false])) .ret) .skip)) (.seq (.gQ (sq 29 [la 2 4,mv 1,mv 3,cf 124 [29,30,31]]++sq 11 [.alloc 11 188 [.sl 0 (some true) [],.sl 0 (some true) [],.sl 0 (some true) [],.sl 0 (some true) [],.lit (.bool false)]]++s0 (sr 5 11 32))) (.seq (.gQ (sq 33 [la 2 4,mv 2,mv 3,cf 124 [33,34,35]]++sq 12 [.alloc 12 188 [.sl 0 (some true) [],.sl 0 (some true) [],.sl 0 (some true) [],.sl 0 (some true) [],.lit (.bool false)]]++s0 (sr 5 12 36))) (.seq (.seq (.gQ (sq 13 [mi 0])) (.block 0 (.loop (.seq (.seq (.gQ (sq 37 [mv 13,fa 0 11,ld 38,ln 39,bn .lss 37 40])) (.cond (t0 41) .skip (.exit 0))) (.seq (.block 1 (.seq (.draw (sq 44 [fa 0 12,ld 44,fa 0 11,ld 46,mv 13,ix 1 47 48,ld 49,cf 125 [45,50]]++sq 14 [mv 51]) [[],[0],[],[2],[],[3,4],[5],[1,6],[7,7,0,1,2,3,4,5,6,7]]) (.seq (.gQ (sq 52 [mv 14,bi .geq 52 0])) (.cond (t0 53) (.seq (.draw (sq 54 [la 5 11,mv 13,cf 126 [54,55],la 5 12,mv 14,cf 126 [57,58]]++s0 (sr 2 8 56)++s0 (sr 2 9 59)++sq 10 [mb true]) [[],[],[0,1],[],[],[3,4,2],[2,5,0,1,2],[5,6,0,1,2,3,4,5,6],[7,0,1,2,3,4,5,6,7]]) .ret) .skip)))) (.gQ (sq 42 [mv 13,bi .add 42 1]++sq 13 [mv 43]))))))) (.seq (.gQ (sq 60 [.build [.sl 0 (some true) [],.sl 0 (some true) []] [],.build [.sl 0 (some true) [],.sl 0 (some true) []] []]++s0 (sr 2 8 60)++s0 (sr 2 9 61)++sq 10 [mb false])) .ret))))))
theorem Y6:jV Tryz.prog 88 Xn 62 [.cell 8 2 true,.cell 9 2 true,.tmp 10]:=mf Tryz.func88 Tryz.ntmps88
def mC(r_2:gD)(r_3:gD):Int->Option (Int⊕(gI×gI×Bool))
 |i=>
  if(decide (i<(r_2.1.length:Int)))=true then
   if 0<=i/\i<(r_2.1.length:Int)then
    (k_ r_3.1 (r_2.1.getD i.toNat default)).bind fun r_4=>
    if(decide (0<=r_4))=true then
     (pn r_2 i).bind fun r_5=>
     (pn r_3 r_4).bind fun r_6=>
     Option.map Sum.inr (
      some (r_5,r_6,true))
    else
     some (.inl (IntKind.i64.wrap (i+1)))
   else none
  else
   Option.map Sum.inr (
    some (([],[]),([],[]),false))
def qH(sys:gC)(a:gk)(b:gk)(steps:Int):Option (gI×gI×Bool):=
 (ox sys a steps).bind fun r=>
 if r=true then
  (ox sys b steps).bind fun r_1=>
  if r_1=true then
   (pg sys a steps).bind fun r_2=>
   (pg sys b steps).bind fun r_3=>
   g_ (mC r_2 r_3) 0
  else
   some (([],[]),([],[]),false)
 else
  some (([],[]),([],[]),false)
instance OL{sys:gC}{a:gk}{b:gk}{steps:Int}:iH (qH sys a b steps) fun rr=>oF Tryz.prog 88 [ia sys,(gS 1 iD) a,(gS 1 iD) b,iD steps] [lF rr.1,lF rr.2.1,bD rr.2.2]:=⟨@fun rr h=>by
 delta qH at h;refine Y6.pG (gO ?_);delta Xn;refine iE ?_;refine rC h fun r hr h=>?_
 refine iT h fun hc h=>?_
 refine rC h fun r_1 hr_1 h=>?_
 refine iT h fun hc h=>?_
 refine rC h fun r_2 hr_2 h=>?_
 refine rC h fun r_3 hr_3 h=>?_
 refine kT h [10,13,14,37,38,39,40,41,42,43,44,45,46,47,48,49,50,51,52,53,54,55,56,57,58,59] (fun pp=>[(13,.d (iD pp))]) (fun pp=>[(4,.obj 33 [.d (gS 1 iD sys.1),.d (gS 2 gP sys.2)]),(8,.obj 50 [.d (.sl 0 (some true) []),.d (.sl 0 (some true) [])]),(9,.obj 50 [.d (.sl 0 (some true) []),.d (.sl 0 (some true) [])]),(11,.obj 188 [.d (gS 1 (gS 1 iD) r_2.1),.d (gS 1 iD r_2.2.1),.d (gS 3 iq r_2.2.2.1),.d (gS 1 iD r_2.2.2.2.1),.d (bD r_2.2.2.2.2)]),(12,.obj 188 [.d (gS 1 (gS 1 iD) r_3.1),.d (gS 1 iD r_3.2.1),.d (gS 3 iq r_3.2.2.1),.d (gS 1 iD r_3.2.2.2.1),.d (bD r_3.2.2.2.2)])]) ?_;rintro i t1 h hb1;unfold mC at h;try dsimp only at h
 refine gO (iE ?_);exact nr⟩
def WU:gV:=
 (.seq (.gQ (sq 4 [bo 4 33 0]++sq 8 [mb false])) (.seq (.gQ (sq 13 [la 2 4,mv 1,mv 2,mv 3,cf 88 [13,14,15,16]]++sq 12 [mv 17]++sq 18 [ex 12 0,ex 12 1,ex 12 2]++sq 9 [.alloc 9 50 [.sl 0 (some true) [],.sl 0 (some true) []],.alloc 10 50 [.sl 0 (some true) [],.sl 0 (some true) []]]++s0 (sr 2 9 18)++s0 (sr 2 10 19)++sq 11 [mv 20])) (.seq (.gQ (sq 21 [mv 11]++sq 8 [mv 21])) .ret)))
theorem YL:jV Tryz.prog 53 WU 22 [.tmp 8]:=mf Tryz.func53 Tryz.ntmps53
def pU(sys:gC)(a:gk)(b:gk)(steps:Int):Option Bool:=
 (qH sys a b steps).bind fun r=>
 some r.2.2
instance Mg{sys:gC}{a:gk}{b:gk}{steps:Int}:iH (pU sys a b steps) fun rr=>jF Tryz.prog 53 [ia sys,(gS 1 iD) a,(gS 1 iD) b,iD steps] (bD rr):=⟨@fun rr h=>by
 delta pU at h;refine YL.jf (gO ?_);delta WU;refine iE ?_;exact nr⟩
def WD:gV:=
 (.seq (.gQ (sq 2 [bo 2 33 0]++sq 4 [.mv (.const (.slice none 0 0))])) (.seq (.gQ (sq 9 [.pF 9 54 6 []]++sq 5 [mv 9])) (.seq (.gQ (sq 11 [la 2 2,cf 15 [11]]++sq 10 [mv 12]++sq 13 [ex 10 0,ex 10 1]++sq 6 [mv 13,mv 14])) (.seq (.seq (.gQ (sq 15 [mv 7,nt 15,mv 16]++sg 17 false 18 [mv 1,cf 29 [18],nt 19]++sq 21 [po 17 20])) (.cond (t0 21) (.seq (.gQ (sq 22 [mv 5]++sq 4 [mv 22])) .ret) .skip)) (.seq (.seq (.gQ (sq 8 [mi 0])) (.block 0 (.loop (.seq (.seq (.gQ (sq 23 [mv 8,mv 6,ln 24,bn .lss 23 25])) (.cond (t0 26) .skip (.exit 0))) (.seq (.block 1 (.seq (.draw (sq 29 [la 2 2,mv 6,mv 8,ix 6 30 31,fa 1 32,ld 33,mv 6,mv 8,ix 6 35 36,fa 2 37,ld 38,mv 1,cf 53 [29,34,39,40],nt 41]) [[],[],[],[1,2],[3],[4],[],[],[6,7],[8],[9],[],[0,5,10,11],[12]]) (.cond (t0 42) (.gQ (sq 43 [mv 5,mv 6,mv 8,ix 6 44 45,la 6 46,.pF 48 54 6 [(t0 47)],ap 49 54 6 96 43 48]++sq 5 [mv 49])) .skip))) (.gQ (sq 27 [mv 8,bi .add 27 1]++sq 8 [mv 28]))))))) (.seq (.gQ (sq 50 [mv 5]++sq 4 [mv 50])) .ret))))))
theorem Yw:jV Tryz.prog 22 WD 51 [.tmp 4]:=mf Tryz.func22 Tryz.ntmps22
def kg(sys:gC)(steps:Int)(r:(gy×Bool)):gM->Option (gM⊕gy)
 |(out,i)=>
  if(decide (i<(r.1.length:Int)))=true then
   if 0<=i/\i<(r.1.length:Int)then
    if 0<=i/\i<(r.1.length:Int)then
     (pU sys ((r.1.getD i.toNat default).2.1) ((r.1.getD i.toNat default).2.2.1) steps).bind fun r_2=>
     if r_2=true then
      some (.inl (out,(IntKind.i64.wrap (i+1))))
     else
      if 0<=i/\i<(r.1.length:Int)then
       if(out.length+1)*96<=140737488355328 then
        some (.inl ((out++[((r.1.getD i.toNat default).1,(r.1.getD i.toNat default).2.1,(r.1.getD i.toNat default).2.2.1,(r.1.getD i.toNat default).2.2.2.1,(r.1.getD i.toNat default).2.2.2.2.1,(r.1.getD i.toNat default).2.2.2.2.2)]),(IntKind.i64.wrap (i+1))))
       else none
      else none
    else none
   else none
  else
   Option.map Sum.inr (
    some out)
def pJ(sys:gC)(steps:Int):Option gy:=
 (om sys).bind fun r=>
 if r.2=true then
  (oU steps).bind fun r_1=>
  if r_1=true then
   g_ (kg sys steps r) ([],0)
  else
   some []
 else
  some []
instance IW{sys:gC}{steps:Int}:iH (pJ sys steps) fun rr=>jF Tryz.prog 22 [ia sys,iD steps] ((gS 6 jz) rr):=⟨@fun rr h=>by
 delta pJ at h;refine Yw.jf (gO ?_);delta WD;refine iE ?_;refine QI h fun r hr h=>?_
 refine iT h fun hc h=>?_
 refine rC h fun r_1 hr_1 h=>?_
 refine iT h fun hc h=>?_
 refine kT h [5,8,23,24,25,26,27,28,29,30,31,32,33,34,35,36,37,38,39,40,41,42,43,44,45,46,47,48,49] (fun pp=>[(5,.own 6 9 (List.map jz pp.1)),(8,.d (iD pp.2))]) (fun pp=>[(2,.obj 33 [.d (gS 1 iD sys.1),.d (gS 2 gP sys.2)]),(9,.tok 54 6 pp.1.length)]) ?_;rintro⟨out,i⟩ t1 h hb1;unfold kg at h;try dsimp only at h
 refine gO (iE ?_);refine iT h fun hc h=>?_
 refine jG h fun hp h=>?_
 refine jG h fun hp h=>?_
 refine dC h fun r_2 hr_2 h=>?_
 refine jy (by kernel_rfl) (iE ?_);refine iF h fun hc h=>?_
 refine jG h fun hp h=>?_
 refine jG h fun hp h=>?_
 cases h;refine⟨_,rfl,?_⟩;refine(ij.drop 48 gN).trans ?_;exact wk⟩
def mc7:gV:=
 (.seq (.gQ (sq 2 [bo 2 33 0]++sq 4 [mb false])) (.seq (.gQ (sq 8 [la 2 2,cf 15 [8]]++sq 7 [mv 9]++sq 10 [ex 7 0,ex 7 1]++sq 5 [mv 10,mv 11])) (.seq (.gQ (sq 12 [mv 6,mv 12]++sg 13 true 14 [mv 1,cf 29 [14]]++sq 16 [pa 13 15,mv 16]++sg 17 true 18 [la 2 2,mv 1,cf 22 [18,19],ln 20,bi .eql 21 0]++sq 23 [pa 17 22]++sq 4 [mv 23])) .ret)))
theorem fn7:jV Tryz.prog 7 mc7 24 [.tmp 4]:=mf Tryz.func7 Tryz.ntmps7
def oT(sys:gC)(steps:Int):Option Bool:=
 (om sys).bind fun r=>
 if r.2=true then
  (oU steps).bind fun r_1=>
  if r_1=true then
   (pJ sys steps).bind fun r_2=>
   some ((r_2.length:Int)==0)
  else
   some false
 else
  some false
instance Lz{sys:gC}{steps:Int}:iH (oT sys steps) fun rr=>jF Tryz.prog 7 [ia sys,iD steps] (bD rr):=⟨@fun rr h=>by
 delta oT at h;refine fn7.jf (gO ?_);delta mc7;refine iE ?_;exact nr⟩
end Go.Proofs.YtjgbnaihpicpgaaGreatDoor
