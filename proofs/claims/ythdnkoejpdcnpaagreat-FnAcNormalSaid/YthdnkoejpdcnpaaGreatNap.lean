/- A part of the proof about FnAcNormal and about FnAcSteps (R5_1, R5_2, R5_3, R5_4, R5). -/
import Derived.Test.YthdnkoejpdcnpaaGreatNan
import Derived.Test.YthdnkoejpdcnpaaGreatNao
set_option linter.all false
noncomputable section
namespace Go.Proofs.YthdnkoejpdcnpaaGreat
open Go kI
attribute [local irreducible] sO uf uc lu kf pG iV xm xQ wz xP wu pY kr lq xO ia jN
set_option maxHeartbeats 4000000
set_option maxRecDepth 4000
def Tg:gH:=
 (.seq (.gD (sq 3 [bo 3 27 1,.alloc 4 47 [.sl 0 (some true) []]])) (.seq (.gD (sq 8 [.build [.sl 0 (some true) []] []]++sq 5 [.alloc 5 47 [.sl 0 (some true) []]]++s0 (sr 1 5 8))) (.seq (.seq (.gD (sq 9 [mv 0,.iw 77 [(t0 9),(i0 4)]]++sq 6 [mv 10])) (.block 0 (.loop (.seq (.seq (.gD (sq 11 [mv 6,bi .gtr 11 0])) (.cond (t0 12) .skip (.exit 0))) (.seq (.block 1 (.seq (.gD (sq 15 [.lQ 15 2 1 []]++sq 7 [mv 15])) (.seq (.seq (.gD (sq 16 [mv 0,.iw 75 [(t0 16),(i0 3)],nt 17])) (.cond (t0 18) (.draw (sq 19 [mv 0,la 1 3,mv 0,.iw 77 [(t0 21),(i0 3)],.bin .add (i0 1) (t0 22),.iw 102 [(t0 19),(t0 20),(t0 23),(i0 3)]]++sq 7 [mv 24]) [[],[],[],[2],[3],[0,1,4,3],[5,5,0,1,2,3,4,5]]) .skip)) (.gD (sq 25 [fa 0 5,ld 25,mv 7,.lQ 28 22 1 [(t0 27)],ap 29 22 1 24 26 28,fa 0 5]++s0 (sr 1 30 29)))))) (.gD (sq 13 [mv 6,bi .sub 13 1]++sq 6 [mv 14]))))))) (.seq (.gD (sq 31 [la 1 5]++s0 (sr 1 4 31))) .ret))))
theorem W0:jT Tryz.prog 172 Tg 32 [.cell 4 1 true]:=mf Tryz.func172 Tryz.ntmps172
def uw(sig:fP)(c0:fP):(Int×Int×Int×fQ)->Option ((Int×Int×Int×fQ)⊕(fQ×Int×Int))
 |(n,c,c_1,s)=>
  if(decide (0<n))=true then
   (gR 3 c0 c c_1).bind fun r_1=>
   if r_1.1=true then
    if(s.length+1)*24<=140737488355328 then
     some (.inl ((IntKind.i64.wrap (n-1)),r_1.2.1,r_1.2.2,(s++[[]])))
    else none
   else
    (gI 3 c0 r_1.2.1 r_1.2.2).bind fun r_2=>
    (iX sig (IntKind.i64.wrap (1+r_2.1)) 3 c0 r_2.2.1 r_2.2.2).bind fun r_3=>
    if(s.length+1)*24<=140737488355328 then
     some (.inl ((IntKind.i64.wrap (n-1)),r_3.2.1,r_3.2.2,(s++[r_3.1])))
    else none
  else
   Option.map Sum.inr (
    some (s,c,c_1))
def rO(sig:fP)(c0:fP)(c1:Int)(c2:Int):Option (fQ×Int×Int):=
 (gI 4 c0 c1 c2).bind fun r=>
 gK (uw sig c0) (r.1,r.2.1,r.2.2,[])
instance PR{sig:fP}{c0:fP}{c1:Int}{c2:Int}:gW (rO sig c0 c1 c2) fun rr=>gN Tryz.prog 172 [.ptr 0 0,.d (.agg [gE 1 iD sig])] [(0,.obj 119 [.d (gE 1 (kD .u8) c0),.d (iD c1),.d (iD c2)])] 1 fun xx ss=>xx=.d (.agg [gE 1 (gE 1 iD) rr.1])/\ss=[(0,.obj 119 [.d (gE 1 (kD .u8) c0),.d (iD rr.2.1),.d (iD rr.2.2)])]:=⟨@fun rr h=>by
 delta rO at h;refine W0.jO (gC ?_);delta Tg;refine g_ ?_;refine lM [(0,0)] [] h fun r hr h=>?_
 refine mO h [6,7,11,12,13,14,15,16,17,18,19,20,21,22,23,24,25,26,27,28,29,30] (fun pp=>[(6,.d (iD pp.1))]) (fun pp=>[(0,.obj 119 [.d (gE 1 (kD .u8) c0),.d (iD pp.2.1),.d (iD pp.2.2.1)]),(3,.obj 27 [.d (gE 1 iD sig)]),(4,.obj 47 [.d (.sl 0 (some true) [])]),(5,.obj 47 [.own 1 29 (List.map (gE 1 iD) pp.2.2.2)]),(29,.tok 22 1 pp.2.2.2.length)]) ?_ ?_
 ·try dsimp only
  refine(gT.rZ 5 0 29 22 1 rfl rfl rfl).trans ?_;exact wk
 rintro⟨n,c,c_1,s⟩ t1 h hb1;unfold uw at h;try dsimp only at h
 refine gC (g_ ?_);refine it h (fun hc h=>?_) fun hc h=>?_
 ·refine lM [(0,0)] [] h fun r_1 hr_1 h=>?_
  refine it h (fun hc h=>?_) fun hc h=>?_
  ·refine iU h fun hp h=>?_
   cases h;refine⟨_,rfl,?_⟩;refine(gT.drop 15 gB).trans ?_;refine(gT.drop 28 gB).trans ?_;exact wk
  refine xN [(0,0)] [] h fun r_2 hr_2 h=>?_
  refine xN [(0,0)] [] h fun r_3 hr_3 h=>?_
  refine i_ (by kernel_rfl) (g_ ?_);refine iU h fun hp h=>?_
  cases h;refine⟨_,rfl,?_⟩;refine(gT.drop 15 gB).trans ?_;refine(gT.drop 28 gB).trans ?_;exact wk
 replace h:=gY h hb1;cases h;exact⟨[3,4,5,29],by simp,jF,jF⟩⟩
def SI:gH:=
 (.seq (.gD (sq 3 [bo 3 58 1,.mv (.const (.slice none 0 0))])) (.seq (.seq (.gD (sq 10 [la 2 3,cf 65 [10],nt 11])) (.cond (t0 12) (.seq (.gD (sq 13 [mv 0,fa 0 3,la 1 14,cf 158 [13,15]]++sq 4 [mv 16])) .ret) .skip)) (.seq (.seq (.gD (sq 17 [fa 1 3,ld 17,ln 18,bi .gtr 19 0,mv 20]++sg 21 true 22 [mv 0,.iw 75 [(t0 22),(i0 2)]]++sq 24 [pa 21 23])) (.cond (t0 24) (.seq (.draw (sq 26 [mv 0,fa 0 3,la 1 27,cf 172 [26,28],fa 1 3,ld 30,mv 0,fa 1 3,ld 33,ln 34,cf 77 [32,35],ix 2 31 36,fa 0 37,ld 38,cf 61 [29,39]]++sq 25 [mv 40]++sq 41 [ex 25 0,ex 25 1]++sq 5 [mv 41,mv 42]) [[],[],[1],[0,2],[],[4],[],[],[7],[8],[6,9,3],[5,10],[11],[12],[3,13,10],[14],[15],[15],[16,14,0,1,2,3,4,5,6,7,8,9,10,11,12,13,14,15,16],[17,18,0,1,2,3,4,5,6,7,8,9,10,11,12,13,14,15,16,17,18]]) (.seq (.gD (sq 43 [mv 6])) (.cond (t0 43) (.seq (.seq (.gD (sq 44 [mv 0,.iw 75 [(t0 44),(i0 2)]])) (.cond (t0 45) (.seq (.gD (sq 46 [mv 5]++sq 4 [mv 46])) .ret) .skip)) (.seq (.gD (sq 47 [mv 0,fa 0 3,la 1 48,.iw 102 [(t0 47),(t0 49),(i0 3),(i0 2)]]++sq 7 [mv 50])) (.seq (.draw (sq 52 [fa 0 3,la 1 52,mv 7,mv 0,mv 7,ln 56,cf 77 [55,57],mv 5,cf 161 [53,54,58,59]]++sq 51 [mv 60]++sq 61 [ex 51 0,ex 51 1]++sq 8 [mv 61,mv 62]) [[],[0],[],[],[],[4],[3,5],[],[1,2,6,7,6],[8],[9],[9],[10,8,0,1,2,3,4,5,6,7,8,9,10],[11,12,0,1,2,3,4,5,6,7,8,9,10,11,12]]) (.seq (.gD (sq 63 [mv 9])) (.cond (t0 63) (.seq (.gD (sq 64 [mv 8]++sq 4 [mv 64])) .ret) .skip))))) .skip))) .skip)) (.seq (.gD (sq 65 [mv 0,fa 0 3,la 1 66,cf 158 [65,67]]++sq 4 [mv 68])) .ret))))
theorem Wr:jT Tryz.prog 129 SI 69 [.tmp 4]:=mf Tryz.func129 Tryz.ntmps129
def iS(sys:gj)(c0:fP)(c1:Int)(c2:Int):Option fS:=
 (mu sys).bind fun r=>
 if r=true then
  if(decide (0<(sys.2.length:Int)))=true then
   (gR 2 c0 c1 c2).bind fun r_1=>
   if r_1.1=true then
    (rO sys.1 c0 r_1.2.1 r_1.2.2).bind fun r_2=>
    (gI (sys.2.length:Int) c0 r_2.2.1 r_2.2.2).bind fun r_3=>
    if 0<=r_3.1/\r_3.1<(sys.2.length:Int)then
     (lC r_2.1 ((sys.2.getD r_3.1.toNat default).1)).bind fun r_4=>
     if r_4.2=true then
      (gR 2 c0 r_3.2.1 r_3.2.2).bind fun r_5=>
      if r_5.1=true then
       some (r_4.1,r_5.2.1,r_5.2.2)
      else
       (iX sys.1 3 2 c0 r_5.2.1 r_5.2.2).bind fun r_6=>
       (gI (r_6.1.length:Int) c0 r_6.2.1 r_6.2.2).bind fun r_7=>
       (oD sys.1 r_6.1 r_7.1 r_4.1).bind fun r_8=>
       if r_8.2=true then
        some (r_8.1,r_7.2.1,r_7.2.2)
       else
        (jC sys.1 c0 r_7.2.1 r_7.2.2).bind fun r_9=>
        some r_9
     else
      (jC sys.1 c0 r_3.2.1 r_3.2.2).bind fun r_10=>
      some r_10
    else none
   else
    (jC sys.1 c0 r_1.2.1 r_1.2.2).bind fun r_11=>
    some r_11
  else
   (jC sys.1 c0 c1 c2).bind fun r_12=>
   some r_12
 else
  (jC sys.1 c0 c1 c2).bind fun r_13=>
  some r_13
instance JY{sys:gj}{c0:fP}{c1:Int}{c2:Int}:gW (iS sys c0 c1 c2) fun rr=>gN Tryz.prog 129 [.ptr 0 0,.d (.agg [gE 1 iD sys.1,gE 2 ir sys.2])] [(0,.obj 119 [.d (gE 1 (kD .u8) c0),.d (iD c1),.d (iD c2)])] 1 fun xx ss=>xx=.d (gE 1 iD rr.1)/\ss=[(0,.obj 119 [.d (gE 1 (kD .u8) c0),.d (iD rr.2.1),.d (iD rr.2.2)])]:=⟨@fun rr h=>by
 delta iS at h;refine Wr.jO (gC ?_);delta SI;refine g_ ?_;refine rC h fun r hr h=>?_
 refine it h (fun hc h=>?_) fun hc h=>?_
 ·refine it h (fun hc h=>?_) fun hc h=>?_
  ·refine lM [(0,0)] [] h fun r_1 hr_1 h=>?_
   refine it h (fun hc h=>?_) fun hc h=>?_
   ·refine xN [(0,0)] [] h fun r_2 hr_2 h=>?_
    refine xN [(0,0)] [] h fun r_3 hr_3 h=>?_
    refine iU h fun hp h=>?_
    refine Uo h fun r_4 hr_4 h=>?_
    refine i_ (by kernel_rfl) (g_ ?_);refine it h (fun hc h=>?_) fun hc h=>?_
    ·refine lM [(0,0)] [] h fun r_5 hr_5 h=>?_
     refine it h (fun hc h=>?_) fun hc h=>?_
     ·cases h;exact⟨[3],by simp,jF,jF⟩
     refine lM [(0,0)] [] h fun r_6 hr_6 h=>?_
     refine xN [(0,0)] [] h fun r_7 hr_7 h=>?_
     refine Uo h fun r_8 hr_8 h=>?_
     refine i_ (by kernel_rfl) (g_ ?_);refine it h (fun hc h=>?_) fun hc h=>?_
     ·cases h;exact⟨[3],by simp,jF,jF⟩
     refine lM [(0,0)] [] h fun r_9 hr_9 h=>?_
     cases h;exact⟨[3],by simp,jF,jF⟩
    refine lM [(0,0)] [] h fun r_10 hr_10 h=>?_
    cases h;exact⟨[3],by simp,jF,jF⟩
   refine lM [(0,0)] [] h fun r_11 hr_11 h=>?_
   cases h;exact⟨[3],by simp,jF,jF⟩
  refine lM [(0,0)] [] h fun r_12 hr_12 h=>?_
  cases h;exact⟨[3],by simp,jF,jF⟩
 refine lM [(0,0)] [] h fun r_13 hr_13 h=>?_
 cases h;exact⟨[3],by simp,jF,jF⟩⟩
def Tf:gH:=
 (.seq (.gD (sq 2 [.mv (.const (.slice none 0 0))])) (.seq (.gD (sq 5 [.lQ 5 2 1 []]++sq 3 [mv 5])) (.seq (.seq (.gD (sq 4 [mi 0])) (.block 0 (.loop (.seq (.seq (.gD (sq 6 [mv 4,mv 0,ln 7,bn .lss 6 8])) (.cond (t0 9) .skip (.exit 0))) (.seq (.block 1 (.seq (.gD (sq 12 [mv 0,mv 4,ix 1 12 13,ld 14,bi .lss 15 0,mv 16]++sg 17 true 18 [mv 3,mv 0,mv 4,ix 1 19 20,ld 21,cf 107 [18,22],nt 23]++sq 25 [pa 17 24])) (.cond (t0 25) (.gD (sq 26 [mv 3,mv 0,mv 4,ix 1 27 28,ld 29,.lQ 31 2 1 [(t0 30)],ap 32 2 1 8 26 31]++sq 3 [mv 32])) .skip))) (.gD (sq 10 [mv 4,bi .add 10 1]++sq 4 [mv 11]))))))) (.seq (.gD (sq 33 [mv 3]++sq 2 [mv 33])) .ret))))
theorem WZ:jT Tryz.prog 171 Tf 34 [.tmp 2]:=mf Tryz.func171 Tryz.ntmps171
def tM(t:fP):gp->Option (gp⊕fP)
 |(out,i)=>
  if(decide (i<(t.length:Int)))=true then
   if 0<=i/\i<(t.length:Int)then
    if(decide ((t.getD i.toNat default)<0))=true then
     if 0<=i/\i<(t.length:Int)then
      (kK out (t.getD i.toNat default)).bind fun r=>
      if r=true then
       some (.inl (out,(IntKind.i64.wrap (i+1))))
      else
       if 0<=i/\i<(t.length:Int)then
        if(out.length+1)*8<=140737488355328 then
         some (.inl ((out++[(t.getD i.toNat default)]),(IntKind.i64.wrap (i+1))))
        else none
       else none
     else none
    else
     some (.inl (out,(IntKind.i64.wrap (i+1))))
   else none
  else
   Option.map Sum.inr (
    some out)
def nV(t:fP):Option fP:=
 gK (tM t) ([],0)
instance M9{t:fP}:gW (nV t) fun rr=>iC Tryz.prog 171 [(gE 1 iD) t] ((gE 1 iD) rr):=⟨@fun rr h=>by
 delta nV at h;refine WZ.iA (gC ?_);delta Tf;refine g_ ?_;refine jk h [3,4,6,7,8,9,10,11,12,13,14,15,16,17,18,19,20,21,22,23,24,25,26,27,28,29,30,31,32] (fun pp=>[(3,.own 1 5 (List.map iD pp.1)),(4,.d (iD pp.2))]) (fun pp=>[(5,.tok 2 1 pp.1.length)]) ?_;rintro⟨out,i⟩ t1 h hb1;unfold tM at h;try dsimp only at h
 refine gC (g_ ?_);refine iT h fun hc h=>?_
 refine iU h fun hp h=>?_
 refine iT h fun hc h=>?_
 refine iU h fun hp h=>?_
 refine rC h fun r hr h=>?_
 refine iF h fun hc h=>?_
 refine iU h fun hp h=>?_
 refine iU h fun hp h=>?_
 cases h;refine⟨_,rfl,?_⟩;refine(gT.drop 31 gB).trans ?_;exact wk⟩
def SH:gH:=
 (.seq (.gD (sq 3 [bo 3 27 1,.alloc 4 135 [.sl 0 (some true) [],.sl 0 (some true) []]])) (.seq (.draw (sq 11 [mv 0,la 1 3,mv 0,.iw 77 [(t0 13),(i0 2)],.bin .add (i0 2) (t0 14),.iw 102 [(t0 11),(t0 12),(t0 15),(i0 2)]]++sq 5 [mv 16]) [[],[],[],[2],[3],[0,1,4,3],[5,5,0,1,2,3,4,5]]) (.seq (.seq (.gD (sq 17 [mv 5,.tD 1 (t0 17) (i0 0),ld 18,bi .lss 19 0])) (.cond (t0 20) (.seq (.gD (sq 21 [mv 0,fa 0 3,ld 22,ln 23,cf 77 [21,24]]++sq 6 [mv 25])) (.seq (.gD (sq 26 [mv 6,.lQ 27 2 1 [(t0 26)]]++sq 5 [mv 27])) (.seq (.gD (sq 28 [fa 0 3,ld 28,mv 6,ix 1 29 30,ld 31]++sq 7 [mv 32])) (.block 0 (.loop (.seq (.seq (.gD (sq 33 [mv 7,bi .gtr 33 0])) (.cond (t0 34) .skip (.exit 0))) (.seq (.block 1 (.gD (sq 37 [mv 5,mv 0,la 1 3,.iw 102 [(t0 38),(t0 39),(i0 1),(i0 2)],ap 41 2 1 8 37 40]++sq 5 [mv 41]))) (.gD (sq 35 [mv 7,bi .sub 35 1]++sq 7 [mv 36]))))))))) .skip)) (.seq (.draw (sq 42 [mv 0,la 1 3,mv 0,.iw 77 [(t0 44),(i0 3)],.bin .add (i0 1) (t0 45),.iw 102 [(t0 42),(t0 43),(t0 46),(i0 2)]]++sq 8 [mv 47]) [[],[],[],[2],[3],[0,1,4,3],[5,5,0,1,2,3,4,5]]) (.seq (.seq (.gD (sq 9 [mi 0])) (.block 2 (.loop (.seq (.seq (.gD (sq 48 [mv 9,mv 8,ln 49,bn .lss 48 50])) (.cond (t0 51) .skip (.exit 2))) (.seq (.block 3 (.seq (.gD (sq 54 [mv 8,mv 9,ix 1 54 55,ld 56,bi .lss 57 0,mv 58]++sg 59 true 60 [mv 5,mv 8,mv 9,ix 1 61 62,ld 63,cf 107 [60,64],nt 65]++sq 67 [pa 59 66])) (.cond (t0 67) (.seq (.gD (sq 68 [mv 5,cf 171 [68]]++sq 10 [mv 69])) (.seq (.seq (.gD (sq 70 [mv 10,ln 70,bi .eql 71 0])) (.cond (t0 72) (.seq (.gD (sq 73 [mv 5,la 1 3,mv 5,mv 5,ln 76,bi .sub 77 1,cf 112 [74,75,78],.build [.sl 0 (some true) [],.sl 0 (some true) []] [(0,1,(t0 73)),(1,1,(t0 79))]]++s0 (sr 2 4 80))) .ret) .skip)) (.gD (sq 81 [mv 8,mv 9,mv 10,.tD 1 (t0 83) (i0 0),ld 84,ix 1 81 82]++s0 (sr 1 86 85))))) .skip))) (.gD (sq 52 [mv 9,bi .add 52 1]++sq 9 [mv 53]))))))) (.seq (.gD (sq 87 [mv 5,mv 8,.build [.sl 0 (some true) [],.sl 0 (some true) []] [(0,1,(t0 87)),(1,1,(t0 88))]]++s0 (sr 2 4 89))) .ret))))))
theorem Wq:jT Tryz.prog 128 SH 90 [.cell 4 2 true]:=mf Tryz.func128 Tryz.ntmps128
def uP(sig:fP)(l:fP)(r_5:fS):(Int×fP)->Option ((Int×fP)⊕(fR×Int×Int))
 |(i,g47)=>
  if(decide (i<(g47.length:Int)))=true then
   if 0<=i/\i<(g47.length:Int)then
    if(decide ((g47.getD i.toNat default)<0))=true then
     if 0<=i/\i<(g47.length:Int)then
      (kK l (g47.getD i.toNat default)).bind fun r_6=>
      if r_6=true then
       some (.inl ((IntKind.i64.wrap (i+1)),g47))
      else
       (nV l).bind fun r_7=>
       if((r_7.length:Int)==0)=true then
        (jX sig l (IntKind.i64.wrap ((l.length:Int)-1))).bind fun r_8=>
        Option.map Sum.inr (
         some ((l,r_8),r_5.2.1,r_5.2.2))
       else
        if 0<=0/\0<(r_7.length:Int)then
         if 0<=i/\i<(g47.length:Int)then
          some (.inl ((IntKind.i64.wrap (i+1)),(g47.set i.toNat (r_7.getD 0 default))))
         else none
        else none
     else none
    else
     some (.inl ((IntKind.i64.wrap (i+1)),g47))
   else none
  else
   Option.map Sum.inr (
    some ((l,g47),r_5.2.1,r_5.2.2))
def qE(sig:fP)(c0:fP):gi->Option (gi⊕(fR×Int×Int))
 |(l,k,c,c_1)=>
  if(decide (0<k))=true then
   (iX sig 1 2 c0 c c_1).bind fun r_3=>
   if(l.length+r_3.1.length)*8<=140737488355328 then
    some (.inl ((l++r_3.1),(IntKind.i64.wrap (k-1)),r_3.2.1,r_3.2.2))
   else none
  else
   Option.map Sum.inr (
    (gI 3 c0 c c_1).bind fun r_4=>
    (jS sig (IntKind.i64.wrap (1+r_4.1)) 2 c0 r_4.2.1 r_4.2.2).bind fun r_5=>
    gK (uP sig l r_5) (0,r_5.1))
def uQ(sig:fP)(r_1:fS)(r_10:fS):(Int×fP)->Option ((Int×fP)⊕(fR×Int×Int))
 |(i_1,g47_1)=>
  if(decide (i_1<(g47_1.length:Int)))=true then
   if 0<=i_1/\i_1<(g47_1.length:Int)then
    if(decide ((g47_1.getD i_1.toNat default)<0))=true then
     if 0<=i_1/\i_1<(g47_1.length:Int)then
      (kK r_1.1 (g47_1.getD i_1.toNat default)).bind fun r_11=>
      if r_11=true then
       some (.inl ((IntKind.i64.wrap (i_1+1)),g47_1))
      else
       (nV r_1.1).bind fun r_12=>
       if((r_12.length:Int)==0)=true then
        (jX sig r_1.1 (IntKind.i64.wrap ((r_1.1.length:Int)-1))).bind fun r_13=>
        Option.map Sum.inr (
         some ((r_1.1,r_13),r_10.2.1,r_10.2.2))
       else
        if 0<=0/\0<(r_12.length:Int)then
         if 0<=i_1/\i_1<(g47_1.length:Int)then
          some (.inl ((IntKind.i64.wrap (i_1+1)),(g47_1.set i_1.toNat (r_12.getD 0 default))))
         else none
        else none
     else none
    else
     some (.inl ((IntKind.i64.wrap (i_1+1)),g47_1))
   else none
  else
   Option.map Sum.inr (
    some ((r_1.1,g47_1),r_10.2.1,r_10.2.2))
def jj(sig:fP)(c0:fP)(c1:Int)(c2:Int):Option (fR×Int×Int):=
 (gI 2 c0 c1 c2).bind fun r=>
 (iX sig (IntKind.i64.wrap (2+r.1)) 2 c0 r.2.1 r.2.2).bind fun r_1=>
 if 0<=0/\0<(r_1.1.length:Int)then
  if(decide ((r_1.1.getD 0 default)<0))=true then
   (gI (sig.length:Int) c0 r_1.2.1 r_1.2.2).bind fun r_2=>
   if 0<=r_2.1/\r_2.1<(sig.length:Int)then
    gK (qE sig c0) ([r_2.1],(sig.getD r_2.1.toNat default),r_2.2.1,r_2.2.2)
   else none
  else
   (gI 3 c0 r_1.2.1 r_1.2.2).bind fun r_9=>
   (jS sig (IntKind.i64.wrap (1+r_9.1)) 2 c0 r_9.2.1 r_9.2.2).bind fun r_10=>
   gK (uQ sig r_1 r_10) (0,r_10.1)
 else none
instance JX{sig:fP}{c0:fP}{c1:Int}{c2:Int}:gW (jj sig c0 c1 c2) fun rr=>gN Tryz.prog 128 [.ptr 0 0,.d (.agg [gE 1 iD sig])] [(0,.obj 119 [.d (gE 1 (kD .u8) c0),.d (iD c1),.d (iD c2)])] 1 fun xx ss=>xx=.d (.agg [gE 1 iD rr.1.1,gE 1 iD rr.1.2])/\ss=[(0,.obj 119 [.d (gE 1 (kD .u8) c0),.d (iD rr.2.1),.d (iD rr.2.2)])]:=⟨@fun rr h=>by
 delta jj at h;refine Wq.Ai (gC ?_);delta SH;refine g_ ?_;refine xN [(0,0)] [] h fun r hr h=>?_
 refine xN [(0,0)] [] h fun r_1 hr_1 h=>?_
 refine i_ (by kernel_rfl) (g_ ?_);refine iU h fun hp h=>?_
 refine it h (fun hc h=>?_) fun hc h=>?_
 ·refine lM [(0,0)] [] h fun r_2 hr_2 h=>?_
  refine iU h fun hp h=>?_
  refine jk h [5,7,33,34,35,36,37,38,39,40,41] (fun pp=>[(5,.own 1 27 (List.map iD pp.1)),(7,.d (iD pp.2.1))]) (fun pp=>[(0,.obj 119 [.d (gE 1 (kD .u8) c0),.d (iD pp.2.2.1),.d (iD pp.2.2.2)]),(3,.obj 27 [.d (gE 1 iD sig)]),(4,.obj 135 [.d (.sl 0 (some true) []),.d (.sl 0 (some true) [])]),(27,.tok 2 1 pp.1.length)]) ?_;rintro⟨l,k,c,c_1⟩ t1 h hb1;unfold qE at h;try dsimp only at h
  refine gC (g_ ?_);refine it h (fun hc h=>?_) fun hc h=>?_
  ·refine lM [(0,0)] [] h fun r_3 hr_3 h=>?_
   exact mm
  replace h:=gY h hb1;refine xN [(0,0)] [] h fun r_4 hr_4 h=>?_
  refine xN [(0,0)] [(900000,47)] h fun r_5 hr_5 h=>?_
  refine i_ (by kernel_rfl) (g_ ?_);refine jk h [8,9,10,48,49,50,51,52,53,54,55,56,57,58,59,60,61,62,63,64,65,66,67,68,69,70,71,72,73,74,75,76,77,78,79,80,81,82,83,84,85,86] (fun pp=>[(9,.d (iD pp.1)),(8,.kG 1 47 pp.2.length)]) (fun pp=>[(0,.obj 119 [.d (gE 1 (kD .u8) c0),.d (iD r_5.2.1),.d (iD r_5.2.2)]),(3,.obj 27 [.d (gE 1 iD sig)]),(4,.obj 135 [.d (.sl 0 (some true) []),.d (.sl 0 (some true) [])]),(27,.tok 2 1 l.length),(47,.iM 2 1 pp.2.length (h_ iD pp.2))]) ?_;rintro⟨i,g47⟩ t1 h hb1;unfold uP at h;try dsimp only at h
  refine gC (g_ ?_);refine it h (fun hc h=>?_) fun hc h=>?_
  ·refine iU h fun hp h=>?_
   refine Eg ?_;refine iT h fun hc h=>?_
   refine iU h fun hp h=>?_
   refine Eg ?_;refine rC h fun r_6 hr_6 h=>?_
   refine iF h fun hc h=>?_
   refine rC h fun r_7 hr_7 h=>?_
   refine iT h fun hc h=>?_
   refine rC h fun r_8 hr_8 h=>?_
   replace h:=gY h hb1;cases h;exact gX.trans ((gX.nW [3,4,27,47] (by simp))) (gX.told yS jF)
  replace h:=gY h hb1;cases h;exact gX.trans ((gX.trans (gX.fz 47 iD rfl g47) (gX.nW [3,4,27] (by simp)))) (gX.told yS jF)
 refine xN [(0,0)] [] h fun r_9 hr_9 h=>?_
 refine xN [(0,0)] [(900000,47)] h fun r_10 hr_10 h=>?_
 refine i_ (by kernel_rfl) (g_ ?_);refine jk h [8,9,10,48,49,50,51,52,53,54,55,56,57,58,59,60,61,62,63,64,65,66,67,68,69,70,71,72,73,74,75,76,77,78,79,80,81,82,83,84,85,86] (fun pp=>[(9,.d (iD pp.1)),(8,.kG 1 47 pp.2.length)]) (fun pp=>[(0,.obj 119 [.d (gE 1 (kD .u8) c0),.d (iD r_10.2.1),.d (iD r_10.2.2)]),(3,.obj 27 [.d (gE 1 iD sig)]),(4,.obj 135 [.d (.sl 0 (some true) []),.d (.sl 0 (some true) [])]),(47,.iM 2 1 pp.2.length (h_ iD pp.2))]) ?_;rintro⟨i_1,g47_1⟩ t1 h hb1;unfold uQ at h;try dsimp only at h
 refine gC (g_ ?_);refine it h (fun hc h=>?_) fun hc h=>?_
 ·refine iU h fun hp h=>?_
  refine Eg ?_;refine iT h fun hc h=>?_
  refine iU h fun hp h=>?_
  refine Eg ?_;refine rC h fun r_11 hr_11 h=>?_
  refine iF h fun hc h=>?_
  refine rC h fun r_12 hr_12 h=>?_
  refine iT h fun hc h=>?_
  refine rC h fun r_13 hr_13 h=>?_
  replace h:=gY h hb1;cases h;exact gX.trans ((gX.nW [3,4,47] (by simp))) (gX.told yS jF)
 replace h:=gY h hb1;cases h;exact gX.trans ((gX.trans (gX.fz 47 iD rfl g47_1) (gX.nW [3,4] (by simp)))) (gX.told yS jF)⟩
theorem Hw(n:Nat):List.take n [D.agg [D.sl 1 none [D.lit (.int .i64 0),D.lit (.int .i64 1),D.lit (.int .i64 (-1))],D.sl 1 none [D.lit (.int .i64 (-1))]],D.agg [D.sl 1 none [D.lit (.int .i64 0),D.lit (.int .i64 (-1)),D.lit (.int .i64 2),D.lit (.int .i64 (-1))],D.sl 1 none [D.lit (.int .i64 1)]]]=List.map ir (List.take n [([0,1,(-1)],[(-1)]),([0,(-1),2,(-1)],[1])]):=by rw[List.map_take];rfl
def XX:gH:=
 (.seq (.gD (sq 2 [.alloc 2 58 [.sl 0 (some true) [],.sl 0 (some true) []],.mv (.const (.slice none 0 0)),.mv (.const (.slice none 0 0))])) (.seq (.gD (sq 11 [mv 0,cf 100 [11]]++sq 10 [mv 12]++sq 13 [ex 10 0,ex 10 1]++sq 5 [.alloc 5 27 [.sl 0 (some true) []]]++s0 (sr 1 5 13)++sq 6 [mv 14])) (.seq (.gD (sq 15 [la 1 5,.build [.sl 0 (some true) [],.sl 0 (some true) []] [(0,1,(t0 15))]]++sq 7 [.alloc 7 58 [.sl 0 (some true) [],.sl 0 (some true) []]]++s0 (sr 2 7 16))) (.seq (.seq (.gD (sq 17 [fa 0 5,ld 17,ln 18,bi .eql 19 4,mv 20]++sg 21 true 22 [fa 0 5,ld 22,.tD 1 (t0 23) (i0 0),ld 24,bi .eql 25 2]++sq 27 [pa 21 26,mv 27]++sg 28 true 29 [fa 0 5,ld 29,.tD 1 (t0 30) (i0 1),ld 31,bi .eql 32 0]++sq 34 [pa 28 33,mv 34]++sg 35 true 36 [fa 0 5,ld 36,.tD 1 (t0 37) (i0 2),ld 38,bi .eql 39 1]++sq 41 [pa 35 40,mv 41]++sg 42 true 43 [fa 0 5,ld 43,.tD 1 (t0 44) (i0 3),ld 45,bi .eql 46 0]++sq 48 [pa 42 47,mv 48]++sg 49 true 50 [mv 0,.iw 75 [(t0 50),(i0 2)]]++sq 52 [pa 49 51])) (.cond (t0 52) (.seq (.gD (sq 53 [.lQ 53 2 1 [(i0 0),(i0 1),(i0 (-1))],.lQ 54 2 1 [(i0 (-1))],.build [.sl 0 (some true) [],.sl 0 (some true) []] [(0,1,(t0 53)),(1,1,(t0 54))],.lQ 56 2 1 [(i0 0),(i0 (-1)),(i0 2),(i0 (-1))],.lQ 57 2 1 [(i0 1)],.build [.sl 0 (some true) [],.sl 0 (some true) []] [(0,1,(t0 56)),(1,1,(t0 57))],.lQ 59 135 2 [(t0 55),(t0 58)],fa 1 7]++s0 (sr 1 60 59))) (.draw (sq 61 [fa 1 7,ld 61,mv 0,.iw 77 [(t0 63),(i0 2)],.bin .add (i0 1) (t0 64),.slc (t0 62) 2 none (some (t0 65)) none,fa 1 7]++s0 (sr 1 67 66)) [[],[0],[],[2],[3],[1,4],[0,1,2,3,4,5],[6,5,3,0,1,2,3,4,5]])) (.seq (.gD (sq 68 [mv 0,.iw 77 [(t0 68),(i0 3)]]++sq 8 [mv 69])) (.block 0 (.loop (.seq (.seq (.gD (sq 70 [mv 8,bi .gtr 70 0])) (.cond (t0 71) .skip (.exit 0))) (.seq (.block 1 (.draw (sq 74 [fa 1 7,ld 74,mv 0,la 1 5,cf 128 [76,77],.lQ 79 135 2 [(t0 78)],ap 80 135 2 48 75 79,fa 1 7]++s0 (sr 1 81 80)) [[],[0],[],[],[2,3],[4],[1,5,4],[0,1,2,3,4,5,6],[7,6,6,0,1,2,3,4,5,6]])) (.gD (sq 72 [mv 8,bi .sub 72 1]++sq 8 [mv 73]))))))))) (.seq (.gD (sq 82 [mv 0,la 1 5,cf 101 [82,83]]++sq 9 [mv 84])) (.seq (.seq (.gD (sq 85 [fa 1 7,ld 85,ln 86,bi .gtr 87 0,mv 88]++sg 89 true 90 [mv 0,.iw 75 [(t0 90),(i0 2)]]++sq 92 [pa 89 91])) (.cond (t0 92) (.gD (sq 93 [mv 0,la 2 7,cf 129 [93,94]]++sq 9 [mv 95])) .skip)) (.seq (.gD (sq 96 [la 2 7,mv 6,mv 9]++s0 (sr 2 2 96)++sq 3 [mv 97,mv 98])) .ret)))))))
theorem Zp:jT Tryz.prog 74 XX 99 [.cell 2 2 true,.tmp 3,.tmp 4]:=mf Tryz.func74 Tryz.ntmps74
def sW(c0:fP)(r:ga):gm->Option (gm⊕gu)
 |(k,c,c_1,sys)=>
  if(decide (0<k))=true then
   (jj r.1 c0 c c_1).bind fun r_7=>
   if(sys.length+1)*48<=140737488355328 then
    some (.inl ((IntKind.i64.wrap (k-1)),r_7.2.1,r_7.2.2,(sys++[r_7.1])))
   else none
  else
   Option.map Sum.inr (
    (iN r.1 c0 c c_1).bind fun r_8=>
    if(decide (0<(sys.length:Int)))=true then
     (gR 2 c0 r_8.2.1 r_8.2.2).bind fun r_9=>
     if r_9.1=true then
      (iS (r.1,sys) c0 r_9.2.1 r_9.2.2).bind fun r_10=>
      some ((r.1,sys),r.2.1,r_10.1,r_10.2.1,r_10.2.2)
     else
      some ((r.1,sys),r.2.1,r_8.1,r_9.2.1,r_9.2.2)
    else
     some ((r.1,sys),r.2.1,r_8.1,r_8.2.1,r_8.2.2))
def sX(c0:fP)(r:ga):gm->Option (gm⊕gu)
 |(k_1,c_2,c_3,sys_1)=>
  if(decide (0<k_1))=true then
   (jj r.1 c0 c_2 c_3).bind fun r_12=>
   if(sys_1.length+1)*48<=140737488355328 then
    some (.inl ((IntKind.i64.wrap (k_1-1)),r_12.2.1,r_12.2.2,(sys_1++[r_12.1])))
   else none
  else
   Option.map Sum.inr (
    (iN r.1 c0 c_2 c_3).bind fun r_13=>
    if(decide (0<(sys_1.length:Int)))=true then
     (gR 2 c0 r_13.2.1 r_13.2.2).bind fun r_14=>
     if r_14.1=true then
      (iS (r.1,sys_1) c0 r_14.2.1 r_14.2.2).bind fun r_15=>
      some ((r.1,sys_1),r.2.1,r_15.1,r_15.2.1,r_15.2.2)
     else
      some ((r.1,sys_1),r.2.1,r_13.1,r_14.2.1,r_14.2.2)
    else
     some ((r.1,sys_1),r.2.1,r_13.1,r_13.2.1,r_13.2.2))
def sY(c0:fP)(r:ga):gm->Option (gm⊕gu)
 |(k_2,c_4,c_5,sys_2)=>
  if(decide (0<k_2))=true then
   (jj r.1 c0 c_4 c_5).bind fun r_17=>
   if(sys_2.length+1)*48<=140737488355328 then
    some (.inl ((IntKind.i64.wrap (k_2-1)),r_17.2.1,r_17.2.2,(sys_2++[r_17.1])))
   else none
  else
   Option.map Sum.inr (
    (iN r.1 c0 c_4 c_5).bind fun r_18=>
    if(decide (0<(sys_2.length:Int)))=true then
     (gR 2 c0 r_18.2.1 r_18.2.2).bind fun r_19=>
     if r_19.1=true then
      (iS (r.1,sys_2) c0 r_19.2.1 r_19.2.2).bind fun r_20=>
      some ((r.1,sys_2),r.2.1,r_20.1,r_20.2.1,r_20.2.2)
     else
      some ((r.1,sys_2),r.2.1,r_18.1,r_19.2.1,r_19.2.2)
    else
     some ((r.1,sys_2),r.2.1,r_18.1,r_18.2.1,r_18.2.2))
def sZ(c0:fP)(r:ga):gm->Option (gm⊕gu)
 |(k_3,c_6,c_7,sys_3)=>
  if(decide (0<k_3))=true then
   (jj r.1 c0 c_6 c_7).bind fun r_22=>
   if(sys_3.length+1)*48<=140737488355328 then
    some (.inl ((IntKind.i64.wrap (k_3-1)),r_22.2.1,r_22.2.2,(sys_3++[r_22.1])))
   else none
  else
   Option.map Sum.inr (
    (iN r.1 c0 c_6 c_7).bind fun r_23=>
    if(decide (0<(sys_3.length:Int)))=true then
     (gR 2 c0 r_23.2.1 r_23.2.2).bind fun r_24=>
     if r_24.1=true then
      (iS (r.1,sys_3) c0 r_24.2.1 r_24.2.2).bind fun r_25=>
      some ((r.1,sys_3),r.2.1,r_25.1,r_25.2.1,r_25.2.2)
     else
      some ((r.1,sys_3),r.2.1,r_23.1,r_24.2.1,r_24.2.2)
    else
     some ((r.1,sys_3),r.2.1,r_23.1,r_23.2.1,r_23.2.2))
def s_(c0:fP)(r:ga):gm->Option (gm⊕gu)
 |(k_4,c_8,c_9,sys_4)=>
  if(decide (0<k_4))=true then
   (jj r.1 c0 c_8 c_9).bind fun r_27=>
   if(sys_4.length+1)*48<=140737488355328 then
    some (.inl ((IntKind.i64.wrap (k_4-1)),r_27.2.1,r_27.2.2,(sys_4++[r_27.1])))
   else none
  else
   Option.map Sum.inr (
    (iN r.1 c0 c_8 c_9).bind fun r_28=>
    if(decide (0<(sys_4.length:Int)))=true then
     (gR 2 c0 r_28.2.1 r_28.2.2).bind fun r_29=>
     if r_29.1=true then
      (iS (r.1,sys_4) c0 r_29.2.1 r_29.2.2).bind fun r_30=>
      some ((r.1,sys_4),r.2.1,r_30.1,r_30.2.1,r_30.2.2)
     else
      some ((r.1,sys_4),r.2.1,r_28.1,r_29.2.1,r_29.2.2)
    else
     some ((r.1,sys_4),r.2.1,r_28.1,r_28.2.1,r_28.2.2))
def ta(c0:fP)(r:ga):gm->Option (gm⊕gu)
 |(k_5,c_10,c_11,sys_5)=>
  if(decide (0<k_5))=true then
   (jj r.1 c0 c_10 c_11).bind fun r_32=>
   if(sys_5.length+1)*48<=140737488355328 then
    some (.inl ((IntKind.i64.wrap (k_5-1)),r_32.2.1,r_32.2.2,(sys_5++[r_32.1])))
   else none
  else
   Option.map Sum.inr (
    (iN r.1 c0 c_10 c_11).bind fun r_33=>
    if(decide (0<(sys_5.length:Int)))=true then
     (gR 2 c0 r_33.2.1 r_33.2.2).bind fun r_34=>
     if r_34.1=true then
      (iS (r.1,sys_5) c0 r_34.2.1 r_34.2.2).bind fun r_35=>
      some ((r.1,sys_5),r.2.1,r_35.1,r_35.2.1,r_35.2.2)
     else
      some ((r.1,sys_5),r.2.1,r_33.1,r_34.2.1,r_34.2.2)
    else
     some ((r.1,sys_5),r.2.1,r_33.1,r_33.2.1,r_33.2.2))
def lN(c0:fP)(c1:Int)(c2:Int):Option gu:=
 (oA c0 c1 c2).bind fun r=>
 if((r.1.length:Int)==4)=true then
  if 0<=0/\0<(r.1.length:Int)then
   if((r.1.getD 0 default)==2)=true then
    if 0<=1/\1<(r.1.length:Int)then
     if((r.1.getD 1 default)==0)=true then
      if 0<=2/\2<(r.1.length:Int)then
       if((r.1.getD 2 default)==1)=true then
        if 0<=3/\3<(r.1.length:Int)then
         if((r.1.getD 3 default)==0)=true then
          (gR 2 c0 r.2.2.1 r.2.2.2).bind fun r_1=>
          if r_1.1=true then
           (gI 2 c0 r_1.2.1 r_1.2.2).bind fun r_2=>
           if 0<=(IntKind.i64.wrap (1+r_2.1))/\(IntKind.i64.wrap (1+r_2.1))<=2 then
            (iN r.1 c0 r_2.2.1 r_2.2.2).bind fun r_3=>
            if(decide (0<(([([0,1,(-1)],[(-1)]),([0,(-1),2,(-1)],[1])].take (IntKind.i64.wrap (1+r_2.1)).toNat).length:Int)))=true then
             (gR 2 c0 r_3.2.1 r_3.2.2).bind fun r_4=>
             if r_4.1=true then
              (iS (r.1,([([0,1,(-1)],[(-1)]),([0,(-1),2,(-1)],[1])].take (IntKind.i64.wrap (1+r_2.1)).toNat)) c0 r_4.2.1 r_4.2.2).bind fun r_5=>
              some ((r.1,([([0,1,(-1)],[(-1)]),([0,(-1),2,(-1)],[1])].take (IntKind.i64.wrap (1+r_2.1)).toNat)),r.2.1,r_5.1,r_5.2.1,r_5.2.2)
             else
              some ((r.1,([([0,1,(-1)],[(-1)]),([0,(-1),2,(-1)],[1])].take (IntKind.i64.wrap (1+r_2.1)).toNat)),r.2.1,r_3.1,r_4.2.1,r_4.2.2)
            else
             some ((r.1,([([0,1,(-1)],[(-1)]),([0,(-1),2,(-1)],[1])].take (IntKind.i64.wrap (1+r_2.1)).toNat)),r.2.1,r_3.1,r_3.2.1,r_3.2.2)
           else none
          else
           (gI 3 c0 r_1.2.1 r_1.2.2).bind fun r_6=>
           gK (sW c0 r) (r_6.1,r_6.2.1,r_6.2.2,[])
         else
          (gI 3 c0 r.2.2.1 r.2.2.2).bind fun r_11=>
          gK (sX c0 r) (r_11.1,r_11.2.1,r_11.2.2,[])
        else none
       else
        (gI 3 c0 r.2.2.1 r.2.2.2).bind fun r_16=>
        gK (sY c0 r) (r_16.1,r_16.2.1,r_16.2.2,[])
      else none
     else
      (gI 3 c0 r.2.2.1 r.2.2.2).bind fun r_21=>
      gK (sZ c0 r) (r_21.1,r_21.2.1,r_21.2.2,[])
    else none
   else
    (gI 3 c0 r.2.2.1 r.2.2.2).bind fun r_26=>
    gK (s_ c0 r) (r_26.1,r_26.2.1,r_26.2.2,[])
  else none
 else
  (gI 3 c0 r.2.2.1 r.2.2.2).bind fun r_31=>
  gK (ta c0 r) (r_31.1,r_31.2.1,r_31.2.2,[])
instance GC{c0:fP}{c1:Int}{c2:Int}:gW (lN c0 c1 c2) fun rr=>gN Tryz.prog 74 [.ptr 0 0] [(0,.obj 119 [.d (gE 1 (kD .u8) c0),.d (iD c1),.d (iD c2)])] 1 fun xx ss=>xx=.nk [.d (.agg [gE 1 iD rr.1.1,gE 2 ir rr.1.2]),.d (gE 1 iD rr.2.1),.d (gE 1 iD rr.2.2.1)]/\ss=[(0,.obj 119 [.d (gE 1 (kD .u8) c0),.d (iD rr.2.2.2.1),.d (iD rr.2.2.2.2)])]:=⟨@fun rr h=>by
 delta lN at h;refine Zp.jO (gC ?_);delta XX;refine g_ ?_;refine lM [(0,0)] [] h fun r hr h=>?_
 refine it h (fun hc h=>?_) fun hc h=>?_
 ·refine iU h fun hp h=>?_
  refine it h (fun hc h=>?_) fun hc h=>?_
  ·refine iU h fun hp h=>?_
   refine it h (fun hc h=>?_) fun hc h=>?_
   ·refine iU h fun hp h=>?_
    refine it h (fun hc h=>?_) fun hc h=>?_
    ·refine iU h fun hp h=>?_
     refine it h (fun hc h=>?_) fun hc h=>?_
     ·refine lM [(0,0)] [] h fun r_1 hr_1 h=>?_
      refine it h (fun hc h=>?_) fun hc h=>?_
      ·refine xN [(0,0)] [] h fun r_2 hr_2 h=>?_
       refine iU h fun hp h=>?_
       refine i_ (by kernel_rfl) (g_ ?_);refine lM [(0,0)] [] h fun r_3 hr_3 h=>?_
       simp only[Hw,aM];refine it h (fun hc h=>?_) fun hc h=>?_
       ·refine lM [(0,0)] [] h fun r_4 hr_4 h=>?_
        refine it h (fun hc h=>?_) fun hc h=>?_
        ·refine lM [(0,0)] [] h fun r_5 hr_5 h=>?_
         cases h;exact⟨[2,5,7,53,54,56,57,59],by simp,jF,jF⟩
        cases h;exact⟨[2,5,7,53,54,56,57,59],by simp,jF,jF⟩
       cases h;exact⟨[2,5,7,53,54,56,57,59],by simp,jF,jF⟩
      refine lM [(0,0)] [] h fun r_6 hr_6 h=>?_
      refine mO h [8,70,71,72,73,74,75,76,77,78,79,80,81] (fun pp=>[(8,.d (iD pp.1))]) (fun pp=>[(0,.obj 119 [.d (gE 1 (kD .u8) c0),.d (iD pp.2.1),.d (iD pp.2.2.1)]),(2,.obj 58 [.d (.sl 0 (some true) []),.d (.sl 0 (some true) [])]),(5,.obj 27 [.d (gE 1 iD r.1)]),(7,.obj 58 [.d (gE 1 iD r.1),.own 2 80 (List.map ir pp.2.2.2)]),(80,.tok 135 2 pp.2.2.2.length)]) ?_ ?_
      ·try dsimp only
       refine(gT.rZ 7 1 80 135 2 rfl rfl rfl).trans ?_;exact wk
      rintro⟨k,c,c_1,sys⟩ t1 h hb1;unfold sW at h;try dsimp only at h
      refine gC (g_ ?_);refine it h (fun hc h=>?_) fun hc h=>?_
      ·refine xN [(0,0)] [] h fun r_7 hr_7 h=>?_
       refine iU h fun hp h=>?_
       refine i_ (by kernel_rfl) (g_ ?_);cases h;refine⟨_,rfl,?_⟩;refine(gT.drop 79 gB).trans ?_;exact wk
      replace h:=gY h hb1;refine lM [(0,0)] [] h fun r_8 hr_8 h=>?_
      refine it h (fun hc h=>?_) fun hc h=>?_
      ·refine lM [(0,0)] [] h fun r_9 hr_9 h=>?_
       refine it h (fun hc h=>?_) fun hc h=>?_
       ·refine lM [(0,0)] [] h fun r_10 hr_10 h=>?_
        cases h;exact⟨[2,5,7,80],by simp,jF,jF⟩
       cases h;exact⟨[2,5,7,80],by simp,jF,jF⟩
      cases h;exact⟨[2,5,7,80],by simp,jF,jF⟩
     refine lM [(0,0)] [] h fun r_11 hr_11 h=>?_
     refine mO h [8,70,71,72,73,74,75,76,77,78,79,80,81] (fun pp=>[(8,.d (iD pp.1))]) (fun pp=>[(0,.obj 119 [.d (gE 1 (kD .u8) c0),.d (iD pp.2.1),.d (iD pp.2.2.1)]),(2,.obj 58 [.d (.sl 0 (some true) []),.d (.sl 0 (some true) [])]),(5,.obj 27 [.d (gE 1 iD r.1)]),(7,.obj 58 [.d (gE 1 iD r.1),.own 2 80 (List.map ir pp.2.2.2)]),(80,.tok 135 2 pp.2.2.2.length)]) ?_ ?_
     ·try dsimp only
      refine(gT.rZ 7 1 80 135 2 rfl rfl rfl).trans ?_;exact wk
     rintro⟨k_1,c_2,c_3,sys_1⟩ t1 h hb1;unfold sX at h;try dsimp only at h
     refine gC (g_ ?_);refine it h (fun hc h=>?_) fun hc h=>?_
     ·refine xN [(0,0)] [] h fun r_12 hr_12 h=>?_
      refine iU h fun hp h=>?_
      refine i_ (by kernel_rfl) (g_ ?_);cases h;refine⟨_,rfl,?_⟩;refine(gT.drop 79 gB).trans ?_;exact wk
     replace h:=gY h hb1;refine lM [(0,0)] [] h fun r_13 hr_13 h=>?_
     refine it h (fun hc h=>?_) fun hc h=>?_
     ·refine lM [(0,0)] [] h fun r_14 hr_14 h=>?_
      refine it h (fun hc h=>?_) fun hc h=>?_
      ·refine lM [(0,0)] [] h fun r_15 hr_15 h=>?_
       cases h;exact⟨[2,5,7,80],by simp,jF,jF⟩
      cases h;exact⟨[2,5,7,80],by simp,jF,jF⟩
     cases h;exact⟨[2,5,7,80],by simp,jF,jF⟩
    refine lM [(0,0)] [] h fun r_16 hr_16 h=>?_
    refine mO h [8,70,71,72,73,74,75,76,77,78,79,80,81] (fun pp=>[(8,.d (iD pp.1))]) (fun pp=>[(0,.obj 119 [.d (gE 1 (kD .u8) c0),.d (iD pp.2.1),.d (iD pp.2.2.1)]),(2,.obj 58 [.d (.sl 0 (some true) []),.d (.sl 0 (some true) [])]),(5,.obj 27 [.d (gE 1 iD r.1)]),(7,.obj 58 [.d (gE 1 iD r.1),.own 2 80 (List.map ir pp.2.2.2)]),(80,.tok 135 2 pp.2.2.2.length)]) ?_ ?_
    ·try dsimp only
     refine(gT.rZ 7 1 80 135 2 rfl rfl rfl).trans ?_;exact wk
    rintro⟨k_2,c_4,c_5,sys_2⟩ t1 h hb1;unfold sY at h;try dsimp only at h
    refine gC (g_ ?_);refine it h (fun hc h=>?_) fun hc h=>?_
    ·refine xN [(0,0)] [] h fun r_17 hr_17 h=>?_
     refine iU h fun hp h=>?_
     refine i_ (by kernel_rfl) (g_ ?_);cases h;refine⟨_,rfl,?_⟩;refine(gT.drop 79 gB).trans ?_;exact wk
    replace h:=gY h hb1;refine lM [(0,0)] [] h fun r_18 hr_18 h=>?_
    refine it h (fun hc h=>?_) fun hc h=>?_
    ·refine lM [(0,0)] [] h fun r_19 hr_19 h=>?_
     refine it h (fun hc h=>?_) fun hc h=>?_
     ·refine lM [(0,0)] [] h fun r_20 hr_20 h=>?_
      cases h;exact⟨[2,5,7,80],by simp,jF,jF⟩
     cases h;exact⟨[2,5,7,80],by simp,jF,jF⟩
    cases h;exact⟨[2,5,7,80],by simp,jF,jF⟩
   refine lM [(0,0)] [] h fun r_21 hr_21 h=>?_
   refine mO h [8,70,71,72,73,74,75,76,77,78,79,80,81] (fun pp=>[(8,.d (iD pp.1))]) (fun pp=>[(0,.obj 119 [.d (gE 1 (kD .u8) c0),.d (iD pp.2.1),.d (iD pp.2.2.1)]),(2,.obj 58 [.d (.sl 0 (some true) []),.d (.sl 0 (some true) [])]),(5,.obj 27 [.d (gE 1 iD r.1)]),(7,.obj 58 [.d (gE 1 iD r.1),.own 2 80 (List.map ir pp.2.2.2)]),(80,.tok 135 2 pp.2.2.2.length)]) ?_ ?_
   ·try dsimp only
    refine(gT.rZ 7 1 80 135 2 rfl rfl rfl).trans ?_;exact wk
   rintro⟨k_3,c_6,c_7,sys_3⟩ t1 h hb1;unfold sZ at h;try dsimp only at h
   refine gC (g_ ?_);refine it h (fun hc h=>?_) fun hc h=>?_
   ·refine xN [(0,0)] [] h fun r_22 hr_22 h=>?_
    refine iU h fun hp h=>?_
    refine i_ (by kernel_rfl) (g_ ?_);cases h;refine⟨_,rfl,?_⟩;refine(gT.drop 79 gB).trans ?_;exact wk
   replace h:=gY h hb1;refine lM [(0,0)] [] h fun r_23 hr_23 h=>?_
   refine it h (fun hc h=>?_) fun hc h=>?_
   ·refine lM [(0,0)] [] h fun r_24 hr_24 h=>?_
    refine it h (fun hc h=>?_) fun hc h=>?_
    ·refine lM [(0,0)] [] h fun r_25 hr_25 h=>?_
     cases h;exact⟨[2,5,7,80],by simp,jF,jF⟩
    cases h;exact⟨[2,5,7,80],by simp,jF,jF⟩
   cases h;exact⟨[2,5,7,80],by simp,jF,jF⟩
  refine lM [(0,0)] [] h fun r_26 hr_26 h=>?_
  refine mO h [8,70,71,72,73,74,75,76,77,78,79,80,81] (fun pp=>[(8,.d (iD pp.1))]) (fun pp=>[(0,.obj 119 [.d (gE 1 (kD .u8) c0),.d (iD pp.2.1),.d (iD pp.2.2.1)]),(2,.obj 58 [.d (.sl 0 (some true) []),.d (.sl 0 (some true) [])]),(5,.obj 27 [.d (gE 1 iD r.1)]),(7,.obj 58 [.d (gE 1 iD r.1),.own 2 80 (List.map ir pp.2.2.2)]),(80,.tok 135 2 pp.2.2.2.length)]) ?_ ?_
  ·try dsimp only
   refine(gT.rZ 7 1 80 135 2 rfl rfl rfl).trans ?_;exact wk
  rintro⟨k_4,c_8,c_9,sys_4⟩ t1 h hb1;unfold s_ at h;try dsimp only at h
  refine gC (g_ ?_);refine it h (fun hc h=>?_) fun hc h=>?_
  ·refine xN [(0,0)] [] h fun r_27 hr_27 h=>?_
   refine iU h fun hp h=>?_
   refine i_ (by kernel_rfl) (g_ ?_);cases h;refine⟨_,rfl,?_⟩;refine(gT.drop 79 gB).trans ?_;exact wk
  replace h:=gY h hb1;refine lM [(0,0)] [] h fun r_28 hr_28 h=>?_
  refine it h (fun hc h=>?_) fun hc h=>?_
  ·refine lM [(0,0)] [] h fun r_29 hr_29 h=>?_
   refine it h (fun hc h=>?_) fun hc h=>?_
   ·refine lM [(0,0)] [] h fun r_30 hr_30 h=>?_
    cases h;exact⟨[2,5,7,80],by simp,jF,jF⟩
   cases h;exact⟨[2,5,7,80],by simp,jF,jF⟩
  cases h;exact⟨[2,5,7,80],by simp,jF,jF⟩
 refine lM [(0,0)] [] h fun r_31 hr_31 h=>?_
 refine mO h [8,70,71,72,73,74,75,76,77,78,79,80,81] (fun pp=>[(8,.d (iD pp.1))]) (fun pp=>[(0,.obj 119 [.d (gE 1 (kD .u8) c0),.d (iD pp.2.1),.d (iD pp.2.2.1)]),(2,.obj 58 [.d (.sl 0 (some true) []),.d (.sl 0 (some true) [])]),(5,.obj 27 [.d (gE 1 iD r.1)]),(7,.obj 58 [.d (gE 1 iD r.1),.own 2 80 (List.map ir pp.2.2.2)]),(80,.tok 135 2 pp.2.2.2.length)]) ?_ ?_
 ·try dsimp only
  refine(gT.rZ 7 1 80 135 2 rfl rfl rfl).trans ?_;exact wk
 rintro⟨k_5,c_10,c_11,sys_5⟩ t1 h hb1;unfold ta at h;try dsimp only at h
 refine gC (g_ ?_);refine it h (fun hc h=>?_) fun hc h=>?_
 ·refine xN [(0,0)] [] h fun r_32 hr_32 h=>?_
  refine iU h fun hp h=>?_
  refine i_ (by kernel_rfl) (g_ ?_);cases h;refine⟨_,rfl,?_⟩;refine(gT.drop 79 gB).trans ?_;exact wk
 replace h:=gY h hb1;refine lM [(0,0)] [] h fun r_33 hr_33 h=>?_
 refine it h (fun hc h=>?_) fun hc h=>?_
 ·refine lM [(0,0)] [] h fun r_34 hr_34 h=>?_
  refine it h (fun hc h=>?_) fun hc h=>?_
  ·refine lM [(0,0)] [] h fun r_35 hr_35 h=>?_
   cases h;exact⟨[2,5,7,80],by simp,jF,jF⟩
  cases h;exact⟨[2,5,7,80],by simp,jF,jF⟩
 cases h;exact⟨[2,5,7,80],by simp,jF,jF⟩⟩
def XF:gH:=
 (.seq (.gD (sq 2 [.alloc 2 58 [.sl 0 (some true) [],.sl 0 (some true) []],.mv (.const (.slice none 0 0)),.mv (.const (.slice none 0 0))])) (.seq (.gD (sq 6 [mv 0,cf 56 [6]]++sq 5 [mv 7])) (.seq (.gD (sq 8 [mv 5,cf 74 [8],ex 9 0,ex 9 1,ex 9 2]++s0 (sr 2 2 10)++sq 3 [mv 11,mv 12])) .ret)))
theorem Y9:jT Tryz.prog 45 XF 13 [.cell 2 2 true,.tmp 3,.tmp 4]:=mf Tryz.func45 Tryz.ntmps45
def pM(code:fP):Option (gj×fP×fP):=
 (qV code).bind fun r=>
 (lN r.1 r.2.1 r.2.2).bind fun r_1=>
 some (r_1.1,r_1.2.1,r_1.2.2.1)
instance Iq{code:fP}:gW (pM code) fun rr=>pn Tryz.prog 45 [(gE 1 (kD .u8)) code] [ja rr.1,(gE 1 iD) rr.2.1,(gE 1 iD) rr.2.2]:=⟨@fun rr h=>by
 delta pM at h;refine Y9.qn (gC ?_);delta XF;refine g_ ?_;refine lM [] [(27,7)] h fun r hr h=>?_
 refine lM [(0,7)] [] h fun r_1 hr_1 h=>?_
 exact mm⟩
def XB:gH:=
 (.seq (.gD (sq 2 [.alloc 2 58 [.sl 0 (some true) [],.sl 0 (some true) []],.mv (.const (.slice none 0 0)),.mv (.const (.slice none 0 0)),mi 0])) (.seq (.gD (sq 10 [mv 0,cf 56 [10]]++sq 6 [mv 11])) (.seq (.gD (sq 13 [mv 6,cf 74 [13]]++sq 12 [mv 14]++sq 15 [ex 12 0,ex 12 1,ex 12 2]++sq 7 [.alloc 7 58 [.sl 0 (some true) [],.sl 0 (some true) []]]++s0 (sr 2 7 15)++sq 8 [mv 16,mv 17])) (.seq (.seq (.gD (sq 18 [mv 6,.iw 75 [(t0 18),(i0 8)]])) (.cond (t0 19) (.seq (.draw (sq 20 [la 2 7,mv 8,mv 9,mv 6,.iw 76 [(t0 23),(i0 60)]]++s0 (sr 2 2 20)++sq 3 [mv 21,mv 22,mv 24]) [[],[],[],[],[3],[0,4,0],[1,5,0,1,5],[2,6,0,1,2,5,6],[4,7,0,1,2,3,4,5,6,7]]) .ret) .skip)) (.seq (.draw (sq 25 [la 2 7,mv 8,mv 9,mv 6,.iw 77 [(t0 28),(i0 12)]]++s0 (sr 2 2 25)++sq 3 [mv 26,mv 27,mv 29]) [[],[],[],[],[3],[0,4,0],[1,5,0,1,5],[2,6,0,1,2,5,6],[4,7,0,1,2,3,4,5,6,7]]) .ret)))))
theorem Y6:jT Tryz.prog 42 XB 30 [.cell 2 2 true,.tmp 3,.tmp 4,.tmp 5]:=mf Tryz.func42 Tryz.ntmps42
def oc(code:fP):Option (gj×fP×fP×Int):=
 (qV code).bind fun r=>
 (lN r.1 r.2.1 r.2.2).bind fun r_1=>
 (gR 8 r.1 r_1.2.2.2.1 r_1.2.2.2.2).bind fun r_2=>
 if r_2.1=true then
  (pQ 60 r.1 r_2.2.1 r_2.2.2).bind fun r_3=>
  some (r_1.1,r_1.2.1,r_1.2.2.1,r_3.1)
 else
  (gI 12 r.1 r_2.2.1 r_2.2.2).bind fun r_4=>
  some (r_1.1,r_1.2.1,r_1.2.2.1,r_4.1)
instance F_{code:fP}:gW (oc code) fun rr=>pn Tryz.prog 42 [(gE 1 (kD .u8)) code] [ja rr.1,(gE 1 iD) rr.2.1,(gE 1 iD) rr.2.2.1,iD rr.2.2.2]:=⟨@fun rr h=>by
 delta oc at h;refine Y6.qn (gC ?_);delta XB;refine g_ ?_;refine lM [] [(27,11)] h fun r hr h=>?_
 refine lM [(0,11)] [] h fun r_1 hr_1 h=>?_
 refine lM [(0,11)] [] h fun r_2 hr_2 h=>?_
 refine it h (fun hc h=>?_) fun hc h=>?_
 ·refine xN [(0,11)] [] h fun r_3 hr_3 h=>?_
  exact mm
 refine xN [(0,11)] [] h fun r_4 hr_4 h=>?_
 exact mm⟩
end Go.Proofs.YthdnkoejpdcnpaaGreat
