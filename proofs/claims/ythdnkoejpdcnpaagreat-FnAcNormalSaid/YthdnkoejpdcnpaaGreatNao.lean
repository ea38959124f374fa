/- A part of the proof about FnAcNormal and about FnAcSteps (R1, R2, R3, R4). -/
import Derived.Test.YthdnkoejpdcnpaaGreatNag
import Derived.Test.YthdnkoejpdcnpaaGreatNah
import Derived.Test.YthdnkoejpdcnpaaGreatNak
set_option linter.all false
noncomputable section
namespace Go.Proofs.YthdnkoejpdcnpaaGreat
open Go kI
attribute [local irreducible] sO uf uc lu kf pG iV xm xQ wz xP wu pY kr lq xO ia jN
set_option maxHeartbeats 4000000
set_option maxRecDepth 4000
def Tx:gH:=
 (.seq (.gD (sq 3 [mb false])) (.seq (.gD (sq 4 [mv 0,ld 1,cf 155 [4,5]]++sq 3 [mv 6])) .ret))
theorem Xg:jT Tryz.prog 199 Tx 7 [.tmp 3]:=mf Tryz.func199 Tryz.ntmps199
def oy(old:fP)(a1:fP):Option Bool:=
 (ig old a1).bind fun r=>
 some r
instance GA{old:fP}{a1:fP}:gW (oy old a1) fun rr=>gN Tryz.prog 199 [.d (gE 1 iD old),.pv [gE 1 iD a1]] [] 0 fun xx ss=>xx=.d (bD rr)/\ss=[]:=⟨@fun rr h=>by
 delta oy at h;refine Xg.jO (gC ?_);delta Tx;refine g_ ?_;exact mm⟩
def Tz:gH:=
 (.seq (.gD (sq 4 [mi 0])) (.seq (.seq (.gD (sq 6 [mv 0,ln 6,mi 0])) (.block 0 (.loop (.seq (.gD (sq 9 [bn .lss 8 7])) (.seq (.cond (t0 9) .skip (.exit 0)) (.seq (.block 1 (.seq (.gD (sq 10 [mv 8]++sq 5 [mv 10])) (.seq (.gD (sq 11 [mv 1,mv 0,mv 5,ix 1 12 13,ld 14,.ug (t0 11) [(t0 15)]])) (.cond (t0 16) (.seq (.gD (sq 17 [mv 5]++sq 4 [mv 17])) .ret) .skip)))) (.gD (sq 18 [bi .add 8 1]++sq 8 [mv 18])))))))) (.seq (.gD (sq 4 [mi (-1)])) .ret)))
theorem Xi:jT Tryz.prog 217 Tz 19 [.tmp 4]:=mf Tryz.func217 Tryz.ntmps217
def iP(s:fQ)(f:fP):Int->Option (Int⊕Int)
 |v8=>
  if(decide (v8<(s.length:Int)))=true then
   if 0<=v8/\v8<(s.length:Int)then
    (oy (s.getD v8.toNat default) f).bind fun r=>
    if r=true then
     Option.map Sum.inr (
      some v8)
    else
     some (.inl (IntKind.i64.wrap (v8+1)))
   else none
  else
   Option.map Sum.inr (
    some (-1))
def jP(s:fQ)(f:fP):Option Int:=
 gK (iP s f) 0
instance AA{s:fQ}{f:fP}:gW (jP s f) fun rr=>gN Tryz.prog 217 [.d (gE 1 (gE 1 iD) s),.fn 199 [] [.pv [gE 1 iD f]]] [] 0 fun xx ss=>xx=.d (iD rr)/\ss=[]:=⟨@fun rr h=>by
 delta jP at h;refine Xi.jO (gC ?_);delta Tz;refine g_ ?_;refine jk h [4,5,8,9,10,11,12,13,14,15,16,17,18] (fun pp=>[(8,.d (iD pp))]) (fun pp=>[]) ?_;rintro v8 t1 h hb1;unfold iP at h;try dsimp only at h
 refine gC (g_ ?_);refine iT h fun hc h=>?_
 refine iU h fun hp h=>?_
 refine tW (by kernel_rfl) ?_;refine lM [] [] h fun r hr h=>?_
 exact mm⟩
def Tw:gH:=
 (.seq (.gD (sq 4 [mb false])) (.seq (.gD (sq 5 [mv 0,mv 1,cf 217 [5,6],bi .geq 7 0]++sq 4 [mv 8])) .ret))
theorem Xf:jT Tryz.prog 198 Tw 9 [.tmp 4]:=mf Tryz.func198 Tryz.ntmps198
def iz(s:fQ)(f:fP):Option Bool:=
 (jP s f).bind fun r=>
 some (decide (0<=r))
instance zY{s:fQ}{f:fP}:gW (iz s f) fun rr=>gN Tryz.prog 198 [.d (gE 1 (gE 1 iD) s),.fn 199 [] [.pv [gE 1 iD f]]] [] 0 fun xx ss=>xx=.d (bD rr)/\ss=[]:=⟨@fun rr h=>by
 delta iz at h;refine Xf.jO (gC ?_);delta Tw;refine g_ ?_;refine lM [] [] h fun r hr h=>?_
 exact mm⟩
def Tc:gH:=
 (.seq (.gD (sq 8 [mb false])) (.seq (.draw (sq 17 [mv 0,.mA (t0 17),fa 0 18,la 2 19,mv 2,mv 0,.mA (t0 22),fa 0 23,fa 0 24,la 1 25,mv 0,.mA (t0 27),fa 2 28,ld 29,mv 1,cf 124 [26,30,31],cf 54 [20,21,32]]++sq 16 [mv 33]++sq 34 [ex 16 0,ex 16 1]++sq 9 [mv 34,mv 35]) [[],[0],[1],[2],[],[],[5],[6],[7],[8],[],[10],[11],[12],[],[9,13,14],[3,4,15,15],[16],[17],[17],[18,16,0,1,2,3,4,5,6,7,8,9,10,11,12,13,14,15,16,17,18],[19,20,0,1,2,3,4,5,6,7,8,9,10,11,12,13,14,15,16,17,18,19,20]]) (.seq (.seq (.gD (sq 36 [mv 10,nt 36])) (.cond (t0 37) (.seq (.gD (sq 8 [mb false])) .ret) .skip)) (.seq (.seq (.gD (sq 38 [mv 9,ln 38,mi 0])) (.block 0 (.loop (.seq (.gD (sq 41 [bn .lss 40 39])) (.seq (.cond (t0 41) .skip (.exit 0)) (.seq (.block 1 (.seq (.gD (sq 42 [ix 1 38 40,la 1 42]++sq 12 [.alloc 12 47 [.sl 0 (some true) []]]++s0 (sr 1 12 43))) (.seq (.gD (sq 45 [la 1 12,mv 3,cf 196 [45,46]]++sq 44 [mv 47]++sq 48 [ex 44 0,ex 44 1]++sq 13 [mv 48,mv 49])) (.seq (.seq (.gD (sq 50 [mv 14,nt 50])) (.cond (t0 51) (.seq (.gD (sq 8 [mb false])) .ret) .skip)) (.seq (.draw (sq 53 [mv 0,.mA (t0 53),fa 0 54,fa 0 55,la 1 56,mv 0,.mA (t0 58),fa 2 59,ld 60,mv 1,mv 13,cf 197 [57,61,62,63]]++sq 52 [mv 64]++sq 65 [ex 52 0,ex 52 1]++sq 15 [.alloc 15 22 [.sl 0 (some true) []]]++s0 (sr 1 15 65)++sq 14 [mv 66]) [[],[0],[1],[2],[3],[],[5],[6],[7],[],[],[4,8,9,10],[11],[12],[12],[],[15,13,11,0,1,2,3,4,5,6,7,8,9,10,11,12,13,15],[14,16,0,1,2,3,4,5,6,7,8,9,10,11,12,13,14,15,16]]) (.seq (.seq (.gD (sq 67 [mv 14,nt 67])) (.cond (t0 68) (.seq (.gD (sq 8 [mb false])) .ret) .skip)) (.seq (.draw (sq 69 [mv 0,.mA (t0 69),fa 0 70,la 2 71,ld 15,cf 70 [72,73]]++s0 (sr 1 15 74)) [[],[0],[1],[2],[],[3,4],[5,5,0,1,2,3,4,5]]) (.seq (.gD (sq 75 [mv 0,.mA (t0 75),fa 3 76,ld 77,.z_ 199 [] [(t0 15)],cf 198 [78,79],nt 80])) (.cond (t0 81) (.draw (sq 82 [mv 0,mv 0,.mA (t0 83),fa 3 84,ld 85,ld 15,.lQ 88 22 1 [(t0 87)],ap 89 22 1 24 86 88,.mA (t0 82),fa 3 90]++s0 (sr 1 91 89)) [[],[],[1],[2],[3],[],[5],[4,6],[0,0,1,2,3,4,5,6,7],[8,0,1,2,3,4,5,6,7],[9,7,7,0,1,2,3,4,5,6,7]]) .skip))))))))) (.gD (sq 92 [bi .add 40 1]++sq 40 [mv 92])))))))) (.seq (.gD (sq 8 [mb true])) .ret)))))
theorem WW:jT Tryz.prog 167 Tc 93 [.tmp 8]:=mf Tryz.func167 Tryz.ntmps167
def jW(jV:Int)(r:fP)(x0:fP)(x1:fP)(x2:fP)(r_2:(fW×Bool)):gq->Option (gq⊕(Bool×fQ))
 |(v40,at'_1)=>
  if(decide (v40<(r_2.1.length:Int)))=true then
   if 0<=v40/\v40<(r_2.1.length:Int)then
    (qx (r_2.1.getD v40.toNat default) r).bind fun r_3=>
    if r_3.2=true then
     (uo x0 x2 jV r_3.1).bind fun r_4=>
     if r_4.2=true then
      (iu (x0,x1) r_4.1).bind fun r_5=>
      (iz at'_1 r_5).bind fun r_6=>
      if r_6=true then
       some (.inl ((IntKind.i64.wrap (v40+1)),at'_1))
      else
       if(at'_1.length+1)*24<=140737488355328 then
        some (.inl ((IntKind.i64.wrap (v40+1)),(at'_1++[r_5])))
       else none
     else
      Option.map Sum.inr (
       some (false,at'_1))
    else
     Option.map Sum.inr (
      some (false,at'_1))
   else none
  else
   Option.map Sum.inr (
    some (true,at'_1))
def mE(jV:Int)(l:fP)(r:fP)(x0:fP)(x1:fP)(x2:fP)(x3:fQ):Option (Bool×fQ):=
 (nr x0 x2 jV).bind fun r_1=>
 (iW (x0,x1) l r_1).bind fun r_2=>
 if r_2.2=true then
  gK (jW jV r x0 x1 x2 r_2) (0,x3)
 else
  some (false,x3)
instance Im{jV:Int}{l:fP}{r:fP}{x0:fP}{x1:fP}{x2:fP}{x3:fQ}:gW (mE jV l r x0 x1 x2 x3) fun rr=>gN Tryz.prog 167 [.ptr 0 0,.d (iD jV),.d (gE 1 iD l),.d (gE 1 iD r)] [(0,.obj 145 [.d (gE 1 iD x0),.d (gE 1 iD x1),.d (gE 1 iD x2),.kG 1 1 x3.length]),(1,.iM 22 1 x3.length (h_ (gE 1 iD) x3))] 2 fun xx ss=>xx=.d (bD rr.1)/\ss=[(0,.obj 145 [.d (gE 1 iD x0),.d (gE 1 iD x1),.d (gE 1 iD x2),.kG 1 1 rr.2.length]),(1,.iM 22 1 rr.2.length (h_ (gE 1 iD) rr.2))]:=⟨@fun rr h=>by
 delta mE at h;refine WW.jO (gC ?_);delta Tc;refine g_ ?_;refine dC h fun r_1 hr_1 h=>?_
 refine Uo h fun r_2 hr_2 h=>?_
 refine i_ (by kernel_rfl) (g_ ?_);refine iT h fun hc h=>?_
 refine jk h [8,12,13,14,15,40,41,42,43,44,45,46,47,48,49,50,51,52,53,54,55,56,57,58,59,60,61,62,63,64,65,66,67,68,69,70,71,72,73,74,75,76,77,78,79,80,81,82,83,84,85,86,87,88,89,90,91,92] (fun pp=>[(40,.d (iD pp.1))]) (fun pp=>[(0,.obj 145 [.d (gE 1 iD x0),.d (gE 1 iD x1),.d (gE 1 iD x2),.kG 1 1 pp.2.length]),(1,.iM 22 1 pp.2.length (h_ (gE 1 iD) pp.2))]) ?_;rintro⟨v40,at'_1⟩ t1 h hb1;unfold jW at h;try dsimp only at h
 refine gC (g_ ?_);refine iT h fun hc h=>?_
 refine iU h fun hp h=>?_
 refine TI h fun r_3 hr_3 h=>?_
 refine it h (fun hc h=>?_) fun hc h=>?_
 ·refine Uo h fun r_4 hr_4 h=>?_
  refine i_ (by kernel_rfl) (g_ ?_);refine it h (fun hc h=>?_) fun hc h=>?_
  ·refine dC h fun r_5 hr_5 h=>?_
   refine i_ (by kernel_rfl) (g_ ?_);refine TJ h fun r_6 hr_6 h=>?_
   refine it h (fun hc h=>?_) fun hc h=>?_
   ·cases h;refine⟨_,rfl,?_⟩;refine(gT.drop 12 gB).trans ?_;refine(gT.drop 15 gB).trans ?_;exact wk
   refine iU h fun hp h=>?_
   refine i_ (by kernel_rfl) (g_ ?_);cases h;refine⟨_,rfl,?_⟩;refine(gT.drop 12 gB).trans ?_;refine(gT.drop 15 gB).trans ?_;refine(gT.drop 88 gB).trans ?_;exact wk
  replace h:=gY h hb1;cases h;exact⟨[12,15],by simp,jF,jF⟩
 replace h:=gY h hb1;cases h;exact⟨[12],by simp,jF,jF⟩⟩
def Td:gH:=
 (.seq (.gD (sq 2 [mi 0])) (.seq (.gD (sq 3 [mv 0,cf 89 [3],.un .neg (t0 4),.max (i0 0) (t0 5)]++sq 2 [mv 6])) .ret))
theorem WX:jT Tryz.prog 168 Td 7 [.tmp 2]:=mf Tryz.func168 Tryz.ntmps168
def rL(t:fP):Option Int:=
 (jR t).bind fun r=>
 some (if(IntKind.i64.wrap (0-r))>0 then(IntKind.i64.wrap (0-r))else 0)
instance PC{t:fP}:gW (rL t) fun rr=>iC Tryz.prog 168 [(gE 1 iD) t] (iD rr):=⟨@fun rr h=>by
 delta rL at h;refine WX.iA (gC ?_);delta Td;refine g_ ?_;exact mm⟩
def SG:gH:=
 (.seq (.gD (sq 5 [bo 5 135 2,mb false])) (.seq (.seq (.gD (sq 10 [mv 0,mv 1,fa 0 5,ld 12,fa 1 5,ld 14,cf 167 [10,11,13,15],nt 16])) (.cond (t0 17) (.seq (.gD (sq 6 [mb false])) .ret) .skip)) (.seq (.gD (sq 18 [fa 0 5,ld 18,.tD 1 (t0 19) (i0 0),ld 20]++sq 7 [mv 21])) (.seq (.seq (.gD (sq 22 [mv 0,.mA (t0 22),fa 0 23,la 2 24,mv 7,cf 120 [25,26],nt 27])) (.cond (t0 28) (.seq (.gD (sq 6 [mb true])) .ret) .skip)) (.seq (.gD (sq 29 [fa 0 5,ld 29,cf 168 [30]]++sq 8 [mv 31])) (.seq (.seq (.gD (sq 32 [mv 8,bi .geq 32 24,mv 33]++sg 34 false 35 [fa 0 5,ld 35,ln 36,bi .add 37 2,bi .gtr 38 60]++sq 40 [po 34 39])) (.cond (t0 40) (.seq (.gD (sq 6 [mb false])) .ret) .skip)) (.seq (.gD (sq 41 [mv 8,cf 148 [41]]++sq 9 [mv 42])) (.seq (.draw (sq 43 [mv 0,mv 1,mv 7,.lQ 46 2 1 [(t0 45)],fa 0 5,ld 47,mv 9,.lQ 50 22 1 [(t0 46),(t0 48),(t0 49)],cf 169 [50],mv 7,.lQ 53 2 1 [(t0 52)],fa 1 5,ld 54,mv 9,.lQ 57 22 1 [(t0 53),(t0 55),(t0 56)],cf 169 [57],cf 167 [43,44,51,58]]++sq 6 [mv 59]) [[],[],[],[2],[],[4],[],[3,5,6],[7],[],[9],[],[11],[],[10,12,13],[14,8],[0,1,8,15,15],[16,16,0,1,2,3,4,5,6,7,8,9,10,11,12,13,14,15,16]]) .ret))))))))
theorem Wp:jT Tryz.prog 125 SG 60 [.tmp 6]:=mf Tryz.func125 Tryz.ntmps125
def oL(jV:Int)(r:fR)(x0:fP)(x1:fP)(x2:fP)(x3:fQ):Option (Bool×fQ):=
 (mE jV r.1 r.2 x0 x1 x2 x3).bind fun r_1=>
 if r_1.1=true then
  if 0<=0/\0<(r.1.length:Int)then
   (kA (x0,x1) (r.1.getD 0 default)).bind fun r_2=>
   if r_2=true then
    (rL r.1).bind fun r_3=>
    if(decide (24<=r_3))=true then
     some (false,r_1.2)
    else
     if(decide (60<(IntKind.i64.wrap ((r.1.length:Int)+2))))=true then
      some (false,r_1.2)
     else
      (lz r_3).bind fun r_4=>
      (ic [[(r.1.getD 0 default)],r.1,r_4]).bind fun r_5=>
      (ic [[(r.1.getD 0 default)],r.2,r_4]).bind fun r_6=>
      (mE jV r_5 r_6 x0 x1 x2 r_1.2).bind fun r_7=>
      some r_7
   else
    some (true,r_1.2)
  else none
 else
  some (false,r_1.2)
instance HX{jV:Int}{r:fR}{x0:fP}{x1:fP}{x2:fP}{x3:fQ}:gW (oL jV r x0 x1 x2 x3) fun rr=>gN Tryz.prog 125 [.ptr 0 0,.d (iD jV),.d (.agg [gE 1 iD r.1,gE 1 iD r.2])] [(0,.obj 145 [.d (gE 1 iD x0),.d (gE 1 iD x1),.d (gE 1 iD x2),.kG 1 1 x3.length]),(1,.iM 22 1 x3.length (h_ (gE 1 iD) x3))] 2 fun xx ss=>xx=.d (bD rr.1)/\ss=[(0,.obj 145 [.d (gE 1 iD x0),.d (gE 1 iD x1),.d (gE 1 iD x2),.kG 1 1 rr.2.length]),(1,.iM 22 1 rr.2.length (h_ (gE 1 iD) rr.2))]:=⟨@fun rr h=>by
 delta oL at h;refine Wp.jO (gC ?_);delta SG;refine g_ ?_;refine lM [(0,0),(1,1)] [] h fun r_1 hr_1 h=>?_
 refine it h (fun hc h=>?_) fun hc h=>?_
 ·refine iU h fun hp h=>?_
  refine rC h fun r_2 hr_2 h=>?_
  refine it h (fun hc h=>?_) fun hc h=>?_
  ·refine rC h fun r_3 hr_3 h=>?_
   refine it h (fun hc h=>?_) fun hc h=>?_
   ·cases h;exact⟨[5],by simp,jF,jF⟩
   refine it h (fun hc h=>?_) fun hc h=>?_
   ·cases h;exact⟨[5],by simp,jF,jF⟩
   refine rC h fun r_4 hr_4 h=>?_
   refine xN [] [(24,51)] h fun r_5 hr_5 h=>?_
   refine xN [] [(24,58)] h fun r_6 hr_6 h=>?_
   refine xN [(0,0),(1,1)] [] h fun r_7 hr_7 h=>?_
   refine i_ (by kernel_rfl) (g_ ?_);cases h;exact⟨[5,46,50,51,53,57,58],by simp,jF,jF⟩
  cases h;exact⟨[5],by simp,jF,jF⟩
 cases h;exact⟨[5],by simp,jF,jF⟩⟩
def wQ:gH:=
 (.seq (.gD (sq 3 [bo 3 58 0]++sq 6 [.mv (.const (.slice none 0 0)),mb false])) (.seq (.gD (sq 12 [fa 0 3,la 1 12,mv 1,.build [.sl 0 (some true) [],.sl 0 (some true) []] [(0,1,(t0 13)),(1,1,(t0 14))],mv 2,.build [.sl 0 (some true) [],.sl 0 (some true) [],.sl 0 (some true) [],.sl 0 (some true) []] [(0,2,(t0 15)),(2,1,(t0 16))],bo 18 145 17]++sq 8 [mv 18])) (.seq (.seq (.gD (sq 19 [mv 2,ln 19,mi 0])) (.block 0 (.loop (.seq (.gD (sq 22 [bn .lss 21 20])) (.seq (.cond (t0 22) .skip (.exit 0)) (.seq (.block 1 (.seq (.gD (sq 23 [mv 21]++sq 9 [mv 23])) (.seq (.gD (sq 24 [fa 1 3,ld 24,ln 25,mi 0])) (.block 2 (.loop (.seq (.gD (sq 28 [bn .lss 27 26])) (.seq (.cond (t0 28) .skip (.exit 2)) (.seq (.block 3 (.seq (.gD (sq 29 [ix 2 25 27,la 2 29]++sq 11 [.alloc 11 135 [.sl 0 (some true) [],.sl 0 (some true) []]]++s0 (sr 2 11 30))) (.seq (.ghost (.gD (sq 31 [mv 8,mv 9,la 2 11,cf 125 [31,32,33],nt 34]))) (.cond (t0 35) (.seq (.gD (sq 6 [.mv (.const (.slice none 0 0)),mb false])) .ret) .skip)))) (.gD (sq 36 [bi .add 27 1]++sq 27 [mv 36])))))))))) (.gD (sq 37 [bi .add 21 1]++sq 21 [mv 37])))))))) (.seq (.seq (.gD (sq 38 [mv 8,.mA (t0 38),fa 3 39,ld 40,ln 41,bi .gtr 42 60])) (.cond (t0 43) (.seq (.gD (sq 6 [.mv (.const (.slice none 0 0)),mb false])) .ret) .skip)) (.seq (.gD (sq 44 [mv 8,.mA (t0 44),fa 3 45,ld 46,.iw 126 [(t0 47),(.func 98)]])) (.seq (.gD (sq 49 [mv 8,.mA (t0 49),fa 3 50,ld 51]++sq 6 [mv 52,mb true])) .ret))))))
theorem AY:jT Tryz.prog 71 wQ 53 [.tmp 6,.tmp 7]:=mf Tryz.func71 Tryz.ntmps71
def lZ(sys:gj)(ac:fP)(t:fP)(v21:Int):gq->Option (gq⊕(gq⊕gh))
 |(v27,g300000_1)=>
  if(decide (v27<(sys.2.length:Int)))=true then
   if 0<=v27/\v27<(sys.2.length:Int)then
    (oL v21 ((sys.2.getD v27.toNat default).1,(sys.2.getD v27.toNat default).2) sys.1 ac t g300000_1).bind fun r=>
    if r.1=true then
     some (.inl ((IntKind.i64.wrap (v27+1)),r.2))
    else
     Option.map Sum.inr (
      Option.map Sum.inr (
       some ([],false)))
   else none
  else
   Option.map Sum.inr (
    some (.inl ((IntKind.i64.wrap (v21+1)),g300000_1)))
def lY(sys:gj)(ac:fP)(t:fP):gq->Option (gq⊕gh)
 |(v21,g300000)=>
  if(decide (v21<(t.length:Int)))=true then
   gK (lZ sys ac t v21) (0,g300000)
  else
   Option.map Sum.inr (
    if(decide (60<(g300000.length:Int)))=true then
     some ([],false)
    else
     (xR g300000).bind fun u=>
     some ((jK g300000),true))
def nO(sys:gj)(ac:fP)(t:fP):Option gh:=
 gK (lY sys ac t) (0,[])
instance MW{sys:gj}{ac:fP}{t:fP}:gW (nO sys ac t) fun rr=>pn Tryz.prog 71 [ja sys,(gE 1 iD) ac,(gE 1 iD) t] [(gE 1 (gE 1 iD)) rr.1,bD rr.2]:=⟨@fun rr h=>by
 delta nO at h;refine AY.U0 (gC ?_);delta wQ;refine g_ ?_;refine mO h [6,7,9,11,21,22,23,24,25,26,27,28,29,30,31,32,33,34,35,36,37] (fun pp=>[(21,.d (iD pp.1))]) (fun pp=>[(3,.obj 58 [.d (gE 1 iD sys.1),.d (gE 2 ir sys.2)]),(18,.obj 145 [.d (gE 1 iD sys.1),.d (gE 1 iD ac),.d (gE 1 iD t),.kG 1 300000 pp.2.length]),(300000,.iM 22 1 pp.2.length (h_ (gE 1 iD) pp.2))]) ?_ ?_
 ·try dsimp only
  refine(gT.E6 18 3 300000 22 1 rfl rfl rfl).trans ?_;exact wk
 rintro⟨v21,g300000⟩ t1 h hb1;unfold lY at h;try dsimp only at h
 refine gC (g_ ?_);refine it h (fun hc h=>?_) fun hc h=>?_
 ·refine jk h [6,7,11,27,28,29,30,31,32,33,34,35,36] (fun pp=>[(27,.d (iD pp.1))]) (fun pp=>[(3,.obj 58 [.d (gE 1 iD sys.1),.d (gE 2 ir sys.2)]),(18,.obj 145 [.d (gE 1 iD sys.1),.d (gE 1 iD ac),.d (gE 1 iD t),.kG 1 300000 pp.2.length]),(300000,.iM 22 1 pp.2.length (h_ (gE 1 iD) pp.2))]) ?_;rintro⟨v27,g300000_1⟩ t2 h hb2;unfold lZ at h;try dsimp only at h
  refine gC (g_ ?_);refine iT h fun hc h=>?_
  refine iU h fun hp h=>?_
  refine iV.of gT.refl ?_;refine g_ ?_;refine lM [(0,18),(1,300000)] [] h fun r hr h=>?_
  refine it h (fun hc h=>?_) fun hc h=>?_
  ·cases h;refine⟨_,rfl,?_⟩;refine(gT.drop 11 gB).trans ?_;exact wk
  replace h:=gY h hb2;replace h:=gY h hb1;cases h;exact⟨_,_,gX.refl,yS⟩
 replace h:=gY h hb1;refine it h (fun hc h=>?_) fun hc h=>?_
 ·cases h;exact⟨_,_,gX.refl,yS⟩
 refine lM [(0,300000)] [] h fun u hu h=>?_
 cases h;exact⟨_,_,(gX.fz 300000 (gE 1 iD) rfl (jK g300000)),yS⟩⟩
def XA:gH:=
 (.seq (.gD (sq 3 [bo 3 58 0]++sq 6 [.mv (.const (.slice none 0 0)),mb false])) (.seq (.seq (.gD (sq 8 [la 2 3,cf 69 [8],nt 9,mv 10]++sg 11 false 12 [fa 0 3,la 1 12,mv 1,mv 2,cf 52 [13,14,15],nt 16]++sq 18 [po 11 17])) (.cond (t0 18) (.seq (.gD (sq 6 [.mv (.const (.slice none 0 0)),mb false])) .ret) .skip)) (.seq (.draw (sq 19 [la 2 3,mv 1,fa 0 3,la 1 21,mv 1,.build [.sl 0 (some true) [],.sl 0 (some true) []] [(0,1,(t0 22)),(1,1,(t0 23))],mv 2,cf 70 [24,25],cf 71 [19,20,26],ex 27 0,ex 27 1]++sq 6 [mv 28,mv 29]) [[],[],[],[2],[],[3,4],[],[5,6],[0,1,7,7],[8],[8],[9,8,0,1,2,3,4,5,6,7,8,9,10],[10,11,0,1,2,3,4,5,6,7,8,9,10,11]]) .ret)))
theorem Y5:jT Tryz.prog 38 XA 30 [.tmp 6,.tmp 7]:=mf Tryz.func38 Tryz.ntmps38
def jL(sys:gj)(ac:fP)(t:fP):Option gh:=
 (oo sys).bind fun r=>
 if r=true then
  (qe sys.1 ac t).bind fun r_1=>
  if r_1=true then
   (iu (sys.1,ac) t).bind fun r_2=>
   (nO sys ac r_2).bind fun r_3=>
   some r_3
  else
   some ([],false)
 else
  some ([],false)
instance MV{sys:gj}{ac:fP}{t:fP}:gW (jL sys ac t) fun rr=>pn Tryz.prog 38 [ja sys,(gE 1 iD) ac,(gE 1 iD) t] [(gE 1 (gE 1 iD)) rr.1,bD rr.2]:=⟨@fun rr h=>by
 delta jL at h;refine Y5.qn (gC ?_);delta XA;refine g_ ?_;exact mm⟩
def Sz:gH:=
 (.seq (.gD (sq 7 [bo 7 27 0]++sq 14 [.mv (.const (.slice none 0 0)),mb false])) (.seq (.draw (sq 25 [la 1 7,mv 1,mv 2,la 1 7,mv 4,mv 5,cf 112 [28,29,30],cf 51 [25,26,27,31]]++sq 24 [mv 32]++sq 33 [ex 24 0,ex 24 1]++sq 16 [mv 33,mv 34]) [[],[],[],[],[],[],[3,4,5],[0,1,2,6,6],[7],[8],[8],[9,7,0,1,2,3,4,5,6,7,8,9],[10,11,0,1,2,3,4,5,6,7,8,9,10,11]]) (.seq (.seq (.gD (sq 35 [mv 17,nt 35])) (.cond (t0 36) (.seq (.gD (sq 37 [mv 6]++sq 14 [mv 37,mb false])) .ret) .skip)) (.seq (.seq (.gD (sq 18 [mi 0])) (.block 0 (.loop (.seq (.seq (.gD (sq 38 [mv 18,mv 16,ln 39,bn .lss 38 40])) (.cond (t0 41) .skip (.exit 0))) (.seq (.block 1 (.seq (.gD (sq 45 [mv 16,mv 18,ix 1 45 46,la 1 47,mv 3,cf 61 [48,49]]++sq 44 [mv 50]++sq 51 [ex 44 0,ex 44 1]++sq 19 [mv 51,mv 52])) (.seq (.seq (.gD (sq 53 [mv 20,nt 53])) (.cond (t0 54) (.seq (.gD (sq 55 [mv 6]++sq 14 [mv 55,mb false])) .ret) .skip)) (.seq (.gD (sq 57 [la 1 7,mv 4,mv 5,mv 19,cf 161 [57,58,59,60]]++sq 56 [mv 61]++sq 62 [ex 56 0,ex 56 1]++sq 21 [mv 62,mv 63])) (.seq (.seq (.gD (sq 64 [mv 22,nt 64])) (.cond (t0 65) (.seq (.gD (sq 66 [mv 6]++sq 14 [mv 66,mb false])) .ret) .skip)) (.seq (.gD (sq 67 [la 1 7,mv 1,mv 21,cf 62 [67,68,69]]++sq 23 [mv 70])) (.seq (.gD (sq 71 [mv 6,mv 23,cf 162 [71,72],bi .lss 73 0])) (.cond (t0 74) (.gD (sq 75 [mv 6,mv 23,cf 160 [75,76]]++sq 6 [mv 77])) .skip)))))))) (.gD (sq 42 [mv 18,bi .add 42 1]++sq 18 [mv 43]))))))) (.seq (.gD (sq 78 [mv 6]++sq 14 [mv 78,mb true])) .ret)))))
theorem Wi:jT Tryz.prog 116 Sz 79 [.tmp 14,.tmp 15]:=mf Tryz.func116 Tryz.ntmps116
def l_(sig:fP)(ac:fP)(r:fP)(t:fP)(jV:Int)(r_2:(fW×Bool)):f_->Option (f_⊕gh)
 |(out_1,i)=>
  if(decide (i<(r_2.1.length:Int)))=true then
   if 0<=i/\i<(r_2.1.length:Int)then
    (lC (r_2.1.getD i.toNat default) r).bind fun r_3=>
    if r_3.2=true then
     (oD sig t jV r_3.1).bind fun r_4=>
     if r_4.2=true then
      (jq sig ac r_4.1).bind fun r_5=>
      (lF out_1 r_5).bind fun r_6=>
      if(decide (r_6<0))=true then
       (mH out_1 r_5).bind fun r_7=>
       some (.inl (r_7,(IntKind.i64.wrap (i+1))))
      else
       some (.inl (out_1,(IntKind.i64.wrap (i+1))))
     else
      Option.map Sum.inr (
       some (out_1,false))
    else
     Option.map Sum.inr (
      some (out_1,false))
   else none
  else
   Option.map Sum.inr (
    some (out_1,true))
def oZ(sig:fP)(ac:fP)(l:fP)(r:fP)(t:fP)(jV:Int)(out:fQ):Option gh:=
 (jX sig t jV).bind fun r_1=>
 (jY sig ac l r_1).bind fun r_2=>
 if r_2.2=true then
  gK (l_ sig ac r t jV r_2) (out,0)
 else
  some (out,false)
instance M6{sig:fP}{ac:fP}{l:fP}{r:fP}{t:fP}{jV:Int}{out:fQ}:gW (oZ sig ac l r t jV out) fun rr=>pn Tryz.prog 116 [gQ sig,(gE 1 iD) ac,(gE 1 iD) l,(gE 1 iD) r,(gE 1 iD) t,iD jV,(gE 1 (gE 1 iD)) out] [(gE 1 (gE 1 iD)) rr.1,bD rr.2]:=⟨@fun rr h=>by
 delta oZ at h;refine Wi.qn (gC ?_);delta Sz;refine g_ ?_;refine dC h fun r_1 hr_1 h=>?_
 refine Uo h fun r_2 hr_2 h=>?_
 refine i_ (by kernel_rfl) (g_ ?_);refine iT h fun hc h=>?_
 refine jk h [6,14,15,18,19,20,21,22,23,38,39,40,41,42,43,44,45,46,47,48,49,50,51,52,53,54,55,56,57,58,59,60,61,62,63,64,65,66,67,68,69,70,71,72,73,74,75,76,77] (fun pp=>[(6,.d (gE 1 (gE 1 iD) pp.1)),(18,.d (iD pp.2))]) (fun pp=>[(7,.obj 27 [.d (gE 1 iD sig)])]) ?_;rintro⟨out_1,i⟩ t1 h hb1;unfold l_ at h;try dsimp only at h
 refine gC (g_ ?_);exact mm⟩
def S_:gH:=
 (.seq (.gD (sq 4 [mi 0])) (.seq (.seq (.gD (sq 5 [mv 0,mv 1,bn .gtr 5 6])) (.cond (t0 7) (.seq (.gD (sq 8 [mv 0]++sq 4 [mv 8])) .ret) .skip)) (.seq (.gD (sq 9 [mv 1]++sq 4 [mv 9])) .ret)))
theorem WT:jT Tryz.prog 163 S_ 10 [.tmp 4]:=mf Tryz.func163 Tryz.ntmps163
def vE(a:Int)(b:Int):Option Int:=
 if(decide (b<a))=true then
  some a
 else
  some b
instance Qp{a:Int}{b:Int}:gW (vE a b) fun rr=>iC Tryz.prog 163 [iD a,iD b] (iD rr):=⟨@fun rr h=>by
 delta vE at h;refine WT.iA (gC ?_);delta S_;refine g_ ?_;exact mm⟩
def SA:gH:=
 (.seq (.gD (sq 2 [mi 0])) (.seq (.gD (sq 3 [mi 0])) (.seq (.seq (.gD (sq 4 [mi 0])) (.block 0 (.loop (.seq (.seq (.gD (sq 5 [mv 4,mv 0,ln 6,bn .lss 5 7])) (.cond (t0 8) .skip (.exit 0))) (.seq (.block 1 (.gD (sq 11 [mv 3,mv 0,mv 4,ix 1 12 13,ld 14,.un .neg (t0 15),cf 163 [11,16]]++sq 3 [mv 17]))) (.gD (sq 9 [mv 4,bi .add 9 1]++sq 4 [mv 10]))))))) (.seq (.gD (sq 18 [mv 3]++sq 2 [mv 18])) .ret))))
theorem Wj:jT Tryz.prog 117 SA 19 [.tmp 2]:=mf Tryz.func117 Tryz.ntmps117
def pW(t:fP):gr->Option (gr⊕Int)
 |(n,i)=>
  if(decide (i<(t.length:Int)))=true then
   if 0<=i/\i<(t.length:Int)then
    (vE n (IntKind.i64.wrap (0-(t.getD i.toNat default)))).bind fun r=>
    some (.inl (r,(IntKind.i64.wrap (i+1))))
   else none
  else
   Option.map Sum.inr (
    some n)
def qd(t:fP):Option Int:=
 gK (pW t) (0,0)
instance Mu{t:fP}:gW (qd t) fun rr=>iC Tryz.prog 117 [(gE 1 iD) t] (iD rr):=⟨@fun rr h=>by
 delta qd at h;refine Wj.iA (gC ?_);delta SA;refine g_ ?_;refine jk h [3,4,5,6,7,8,9,10,11,12,13,14,15,16,17] (fun pp=>[(3,.d (iD pp.1)),(4,.d (iD pp.2))]) (fun pp=>[]) ?_;rintro⟨n,i⟩ t1 h hb1;unfold pW at h;try dsimp only at h
 refine gC (g_ ?_);exact mm⟩
def XU:gH:=
 (.seq (.gD (sq 3 [bo 3 58 0]++sq 6 [.mv (.const (.slice none 0 0)),mb false])) (.seq (.gD (sq 16 [.lQ 16 22 1 []]++sq 8 [mv 16])) (.seq (.gD (sq 9 [mb true])) (.seq (.seq (.gD (sq 10 [mi 0])) (.block 0 (.loop (.seq (.seq (.gD (sq 17 [mv 10,mv 2,ln 18,bn .lss 17 19])) (.cond (t0 20) .skip (.exit 0))) (.seq (.block 1 (.seq (.gD (sq 11 [mi 0])) (.block 2 (.loop (.seq (.seq (.gD (sq 23 [mv 11,fa 1 3,ld 24,ln 25,bn .lss 23 26])) (.cond (t0 27) .skip (.exit 2))) (.seq (.block 3 (.seq (.gD (sq 30 [fa 1 3,ld 30,mv 11,ix 2 31 32,la 2 33]++sq 12 [.alloc 12 135 [.sl 0 (some true) [],.sl 0 (some true) []]]++s0 (sr 2 12 34))) (.seq (.gD (sq 36 [fa 0 3,la 1 36,mv 1,fa 0 12,ld 39,fa 1 12,ld 41,mv 2,mv 10,mv 8,cf 116 [37,38,40,42,43,44,45]]++sq 35 [mv 46]++sq 47 [ex 35 0,ex 35 1]++sq 8 [mv 47,mv 48])) (.seq (.seq (.gD (sq 49 [mv 9,nt 49])) (.cond (t0 50) (.seq (.gD (sq 51 [.lQ 51 22 1 []]++sq 6 [mv 51,mb false])) .ret) .skip)) (.seq (.gD (sq 52 [fa 0 12,ld 52,.tD 1 (t0 53) (i0 0),ld 54]++sq 13 [mv 55])) (.seq (.seq (.gD (sq 56 [mv 1,mv 13,cf 107 [56,57],nt 58])) (.cond (t0 59) (.exit 3) .skip)) (.seq (.gD (sq 60 [fa 0 12,ld 60,cf 117 [61],.bin .sub (i0 (-1)) (t0 62)]++sq 14 [mv 63])) (.seq (.gD (sq 64 [mv 13,.lQ 65 2 1 [(t0 64)],fa 0 12,ld 66,ap 68 2 1 8 65 67,mv 14,.lQ 70 2 1 [(t0 69)],ap 71 2 1 8 68 70]++sq 15 [mv 71])) (.seq (.seq (.gD (sq 72 [mv 14,bi .lss 72 (-24),mv 73]++sg 74 false 75 [mv 15,ln 75,bi .gtr 76 60]++sq 78 [po 74 77])) (.cond (t0 78) (.seq (.gD (sq 79 [.lQ 79 22 1 []]++sq 6 [mv 79,mb false])) .ret) .skip)) (.seq (.draw (sq 81 [fa 0 3,la 1 81,mv 1,mv 15,mv 13,.lQ 86 2 1 [(t0 85)],fa 1 12,ld 87,ap 89 2 1 8 86 88,mv 14,.lQ 91 2 1 [(t0 90)],ap 92 2 1 8 89 91,mv 2,mv 10,mv 8,cf 116 [82,83,84,92,93,94,95]]++sq 80 [mv 96]++sq 97 [ex 80 0,ex 80 1]++sq 8 [mv 97,mv 98]) [[],[0],[],[],[],[4],[],[6],[5,7],[],[9],[8,10,8],[],[],[],[1,2,3,11,12,13,14,11],[15],[16],[16],[17,15,0,1,2,3,4,5,6,7,8,9,10,11,12,13,14,15,16,17],[18,19,0,1,2,3,4,5,6,7,8,9,10,11,12,13,14,15,16,17,18,19]]) (.seq (.gD (sq 99 [mv 9,nt 99])) (.cond (t0 100) (.seq (.gD (sq 101 [.lQ 101 22 1 []]++sq 6 [mv 101,mb false])) .ret) .skip)))))))))))) (.gD (sq 28 [mv 11,bi .add 28 1]++sq 11 [mv 29])))))))) (.gD (sq 21 [mv 10,bi .add 21 1]++sq 10 [mv 22]))))))) (.seq (.seq (.gD (sq 102 [mv 8,ln 102,bi .gtr 103 60])) (.cond (t0 104) (.seq (.gD (sq 105 [.lQ 105 22 1 []]++sq 6 [mv 105,mb false])) .ret) .skip)) (.seq (.gD (sq 106 [mv 8]++sq 6 [mv 106,mb true])) .ret))))))
theorem Zm:jT Tryz.prog 67 XU 107 [.tmp 6,.tmp 7]:=mf Tryz.func67 Tryz.ntmps67
def lI(sys:gj)(ac:fP)(t:fP)(jV:Int):f_->Option (f_⊕(f_⊕gh))
 |(out_1,i)=>
  if(decide (i<(sys.2.length:Int)))=true then
   if 0<=i/\i<(sys.2.length:Int)then
    (oZ sys.1 ac ((sys.2.getD i.toNat default).1) ((sys.2.getD i.toNat default).2) t jV out_1).bind fun r=>
    if r.2=true then
     if 0<=0/\0<(((sys.2.getD i.toNat default).1).length:Int)then
      (kK ac (((sys.2.getD i.toNat default).1).getD 0 default)).bind fun r_1=>
      if r_1=true then
       (qd ((sys.2.getD i.toNat default).1)).bind fun r_2=>
       if(1+((sys.2.getD i.toNat default).1).length)*8<=140737488355328 then
        if(([(((sys.2.getD i.toNat default).1).getD 0 default)]++(sys.2.getD i.toNat default).1).length+1)*8<=140737488355328 then
         if(decide ((IntKind.i64.wrap ((-1)-r_2))<(-24)))=true then
          Option.map Sum.inr (
           Option.map Sum.inr (
            some ([],false)))
         else
          if(decide (60<((([(((sys.2.getD i.toNat default).1).getD 0 default)]++(sys.2.getD i.toNat default).1)++[(IntKind.i64.wrap ((-1)-r_2))]).length:Int)))=true then
           Option.map Sum.inr (
            Option.map Sum.inr (
             some ([],false)))
          else
           if(1+((sys.2.getD i.toNat default).2).length)*8<=140737488355328 then
            if(([(((sys.2.getD i.toNat default).1).getD 0 default)]++(sys.2.getD i.toNat default).2).length+1)*8<=140737488355328 then
             (oZ sys.1 ac (([(((sys.2.getD i.toNat default).1).getD 0 default)]++(sys.2.getD i.toNat default).1)++[(IntKind.i64.wrap ((-1)-r_2))]) (([(((sys.2.getD i.toNat default).1).getD 0 default)]++(sys.2.getD i.toNat default).2)++[(IntKind.i64.wrap ((-1)-r_2))]) t jV r.1).bind fun r_3=>
             if r_3.2=true then
              some (.inl (r_3.1,(IntKind.i64.wrap (i+1))))
             else
              Option.map Sum.inr (
               Option.map Sum.inr (
                some ([],false)))
            else none
           else none
        else none
       else none
      else
       some (.inl (r.1,(IntKind.i64.wrap (i+1))))
     else none
    else
     Option.map Sum.inr (
      Option.map Sum.inr (
       some ([],false)))
   else none
  else
   Option.map Sum.inr (
    some (.inl (out_1,(IntKind.i64.wrap (jV+1)))))
def lH(sys:gj)(ac:fP)(t:fP):f_->Option (f_⊕gh)
 |(out,jV)=>
  if(decide (jV<(t.length:Int)))=true then
   gK (lI sys ac t jV) (out,0)
  else
   Option.map Sum.inr (
    if(decide (60<(out.length:Int)))=true then
     some ([],false)
    else
     some (out,true))
def oq(sys:gj)(ac:fP)(t:fP):Option gh:=
 gK (lH sys ac t) ([],0)
instance Mr{sys:gj}{ac:fP}{t:fP}:gW (oq sys ac t) fun rr=>pn Tryz.prog 67 [ja sys,(gE 1 iD) ac,(gE 1 iD) t] [(gE 1 (gE 1 iD)) rr.1,bD rr.2]:=⟨@fun rr h=>by
 delta oq at h;refine Zm.qn (gC ?_);delta XU;refine g_ ?_;refine jk h [6,7,8,9,10,11,12,13,14,15,17,18,19,20,21,22,23,24,25,26,27,28,29,30,31,32,33,34,35,36,37,38,39,40,41,42,43,44,45,46,47,48,49,50,51,52,53,54,55,56,57,58,59,60,61,62,63,64,65,66,67,68,69,70,71,72,73,74,75,76,77,78,79,80,81,82,83,84,85,86,87,88,89,90,91,92,93,94,95,96,97,98,99,100,101] (fun pp=>[(8,.d (gE 1 (gE 1 iD) pp.1)),(10,.d (iD pp.2))]) (fun pp=>[(3,.obj 58 [.d (gE 1 iD sys.1),.d (gE 2 ir sys.2)]),(16,.tok 22 1 0)]) ?_;rintro⟨out,jV⟩ t1 h hb1;unfold lH at h;try dsimp only at h
 refine gC (g_ ?_);refine iT h fun hc h=>?_
 refine jk h [6,7,8,9,11,12,13,14,15,23,24,25,26,27,28,29,30,31,32,33,34,35,36,37,38,39,40,41,42,43,44,45,46,47,48,49,50,51,52,53,54,55,56,57,58,59,60,61,62,63,64,65,66,67,68,69,70,71,72,73,74,75,76,77,78,79,80,81,82,83,84,85,86,87,88,89,90,91,92,93,94,95,96,97,98,99,100,101] (fun pp=>[(8,.d (gE 1 (gE 1 iD) pp.1)),(11,.d (iD pp.2))]) (fun pp=>[(3,.obj 58 [.d (gE 1 iD sys.1),.d (gE 2 ir sys.2)]),(16,.tok 22 1 0)]) ?_;rintro⟨out_1,i⟩ t2 h hb2;unfold lI at h;try dsimp only at h
 refine gC (g_ ?_);refine iT h fun hc h=>?_
 refine iU h fun hp h=>?_
 refine TI h fun r hr h=>?_
 refine iT h fun hc h=>?_
 refine iU h fun hp h=>?_
 refine rC h fun r_1 hr_1 h=>?_
 refine it h (fun hc h=>?_) fun hc h=>?_
 ·refine rC h fun r_2 hr_2 h=>?_
  refine iU h fun hp h=>?_
  refine iU h fun hp h=>?_
  refine iF h fun hc h=>?_
  simp only[show ∀(x y:Int)(l:fP),(([x]++l)++[y]).length=l.length+1+1 from fun x y l=>by simp only[aj,ai,bB];omega]at h;refine iF h fun hc h=>?_
  refine iU h fun hp h=>?_
  refine iU h fun hp h=>?_
  refine Uo h fun r_3 hr_3 h=>?_
  refine i_ (by kernel_rfl) (g_ ?_);refine iT h fun hc h=>?_
  cases h;refine⟨_,rfl,?_⟩;refine(gT.drop 12 gB).trans ?_;refine(gT.drop 65 gB).trans ?_;refine(gT.drop 70 gB).trans ?_;refine(gT.drop 86 gB).trans ?_;refine(gT.drop 91 gB).trans ?_;exact wk
 cases h;refine⟨_,rfl,?_⟩;refine(gT.drop 12 gB).trans ?_;exact wk⟩
def Xz:gH:=
 (.seq (.gD (sq 3 [bo 3 58 0]++sq 6 [.mv (.const (.slice none 0 0)),mb false])) (.seq (.seq (.gD (sq 8 [la 2 3,cf 65 [8],nt 9,mv 10]++sg 11 false 12 [fa 0 3,la 1 12,mv 1,mv 2,cf 50 [13,14,15],nt 16]++sq 18 [po 11 17])) (.cond (t0 18) (.seq (.gD (sq 19 [.lQ 19 22 1 []]++sq 6 [mv 19,mb false])) .ret) .skip)) (.seq (.draw (sq 20 [la 2 3,mv 1,fa 0 3,la 1 22,mv 1,mv 2,cf 62 [23,24,25],cf 67 [20,21,26],ex 27 0,ex 27 1]++sq 6 [mv 28,mv 29]) [[],[],[],[2],[],[],[3,4,5],[0,1,6,6],[7],[7],[8,7,0,1,2,3,4,5,6,7,8,9],[9,10,0,1,2,3,4,5,6,7,8,9,10]]) .ret)))
theorem Y4:jT Tryz.prog 37 Xz 30 [.tmp 6,.tmp 7]:=mf Tryz.func37 Tryz.ntmps37
def mQ(sys:gj)(ac:fP)(t:fP):Option gh:=
 (mu sys).bind fun r=>
 if r=true then
  (mY sys.1 ac t).bind fun r_1=>
  if r_1=true then
   (jq sys.1 ac t).bind fun r_2=>
   (oq sys ac r_2).bind fun r_3=>
   some r_3
  else
   some ([],false)
 else
  some ([],false)
instance MZ{sys:gj}{ac:fP}{t:fP}:gW (mQ sys ac t) fun rr=>pn Tryz.prog 37 [ja sys,(gE 1 iD) ac,(gE 1 iD) t] [(gE 1 (gE 1 iD)) rr.1,bD rr.2]:=⟨@fun rr h=>by
 delta mQ at h;refine Y4.qn (gC ?_);delta Xz;refine g_ ?_;exact mm⟩
def Xw:gH:=
 (.seq (.gD (sq 4 [bo 4 58 0]++sq 8 [.mv (.const (.slice none 0 0)),mb false])) (.seq (.seq (.gD (sq 13 [la 2 4,cf 69 [13],nt 14,mv 15]++sg 16 false 17 [fa 0 4,la 1 17,mv 1,mv 2,cf 52 [18,19,20],nt 21]++sq 23 [po 16 22,mv 23]++sg 24 false 25 [mv 3,bi .lss 25 0]++sq 27 [po 24 26,mv 27]++sg 28 false 29 [mv 3,bi .gtr 29 60]++sq 31 [po 28 30])) (.cond (t0 31) (.seq (.gD (sq 8 [.mv (.const (.slice none 0 0)),mb false])) .ret) .skip)) (.seq (.gD (sq 32 [fa 0 4,la 1 32,mv 1,.build [.sl 0 (some true) [],.sl 0 (some true) []] [(0,1,(t0 33)),(1,1,(t0 34))],mv 2,cf 70 [35,36]]++sq 2 [mv 37])) (.seq (.gD (sq 10 [mi 0])) (.block 0 (.loop (.seq (.block 1 (.seq (.gD (sq 41 [la 2 4,mv 1,mv 2,cf 71 [41,42,43]]++sq 40 [mv 44]++sq 45 [ex 40 0,ex 40 1]++sq 11 [mv 45,mv 46])) (.seq (.block 2 (.seq (.gD (sq 48 [mv 12,nt 48,mv 49]++sg 50 false 51 [mv 11,ln 51,bi .gtr 52 0,mv 53]++sg 54 true 55 [mv 10,mv 3,bn .eql 55 56]++sg 50 false 58 [pa 54 57]++sq 59 [po 50 58]++sq 47 [mv 59])) (.cond (t0 47) (.seq (.gD (sq 8 [.mv (.const (.slice none 0 0)),mb false])) .ret) (.seq (.gD (sq 61 [mv 11,ln 61,bi .eql 62 0]++sq 60 [mv 63])) (.cond (t0 60) (.seq (.gD (sq 64 [mv 2]++sq 8 [mv 64,mb true])) .ret) .skip))))) (.gD (sq 65 [mv 11,.tD 1 (t0 65) (i0 0),ld 66]++sq 2 [mv 67]))))) (.gD (sq 38 [mv 10,bi .add 38 1]++sq 10 [mv 39])))))))))
theorem Y3:jT Tryz.prog 33 Xw 68 [.tmp 8,.tmp 9]:=mf Tryz.func33 Tryz.ntmps33
def iE(sys:gj)(ac:fP)(fuel:Int):gp->Option (gp⊕gx)
 |(t_1,made)=>
  (nO sys ac t_1).bind fun r_3=>
  if r_3.2=true then
   if(decide (0<(r_3.1.length:Int)))=true then
    if(made==fuel)=true then
     Option.map Sum.inr (
      some ([],false))
    else
     if((r_3.1.length:Int)==0)=true then
      Option.map Sum.inr (
       some (t_1,true))
     else
      if 0<=0/\0<(r_3.1.length:Int)then
       some (.inl ((r_3.1.getD 0 default),(IntKind.i64.wrap (made+1))))
      else none
   else
    if((r_3.1.length:Int)==0)=true then
     Option.map Sum.inr (
      some (t_1,true))
    else
     if 0<=0/\0<(r_3.1.length:Int)then
      some (.inl ((r_3.1.getD 0 default),(IntKind.i64.wrap (made+1))))
     else none
  else
   Option.map Sum.inr (
    some ([],false))
def ji(sys:gj)(ac:fP)(t:fP)(fuel:Int):Option gx:=
 (oo sys).bind fun r=>
 if r=true then
  (qe sys.1 ac t).bind fun r_1=>
  if r_1=true then
   if(decide (fuel<0))=true then
    some ([],false)
   else
    if(decide (60<fuel))=true then
     some ([],false)
    else
     (iu (sys.1,ac) t).bind fun r_2=>
     gK (iE sys ac fuel) (r_2,0)
  else
   some ([],false)
 else
  some ([],false)
instance JR{sys:gj}{ac:fP}{t:fP}{fuel:Int}:gW (ji sys ac t fuel) fun rr=>pn Tryz.prog 33 [ja sys,(gE 1 iD) ac,(gE 1 iD) t,iD fuel] [(gE 1 iD) rr.1,bD rr.2]:=⟨@fun rr h=>by
 delta ji at h;refine Y3.qn (gC ?_);delta Xw;refine g_ ?_;refine rC h fun r hr h=>?_
 refine iT h fun hc h=>?_
 refine rC h fun r_1 hr_1 h=>?_
 refine iT h fun hc h=>?_
 refine iF h fun hc h=>?_
 refine iF h fun hc h=>?_
 refine rC h fun r_2 hr_2 h=>?_
 refine jk h [2,8,9,10,11,12,38,39,40,41,42,43,44,45,46,47,48,49,50,51,52,53,54,55,56,57,58,59,60,61,62,63,64,65,66,67] (fun pp=>[(2,.d (gE 1 iD pp.1)),(10,.d (iD pp.2))]) (fun pp=>[(4,.obj 58 [.d (gE 1 iD sys.1),.d (gE 2 ir sys.2)])]) ?_;rintro⟨t_1,made⟩ t1 h hb1;unfold iE at h;try dsimp only at h
 refine gC (g_ ?_);exact mm⟩
def Xv:gH:=
 (.seq (.gD (sq 4 [bo 4 58 0]++sq 8 [.mv (.const (.slice none 0 0)),mb false])) (.seq (.seq (.gD (sq 13 [la 2 4,cf 65 [13],nt 14,mv 15]++sg 16 false 17 [fa 0 4,la 1 17,mv 1,mv 2,cf 50 [18,19,20],nt 21]++sq 23 [po 16 22,mv 23]++sg 24 false 25 [mv 3,.iw 66 [(t0 25),(i0 0),(i0 60)],nt 26]++sq 28 [po 24 27])) (.cond (t0 28) (.seq (.gD (sq 29 [.lQ 29 2 1 []]++sq 8 [mv 29,mb false])) .ret) .skip)) (.seq (.gD (sq 30 [fa 0 4,la 1 30,mv 1,mv 2,cf 62 [31,32,33]]++sq 10 [mv 34])) (.block 0 (.loop (.block 1 (.seq (.gD (sq 36 [la 2 4,mv 1,mv 10,cf 67 [36,37,38]]++sq 35 [mv 39]++sq 40 [ex 35 0,ex 35 1]++sq 11 [mv 40,mv 41])) (.seq (.seq (.gD (sq 42 [mv 12,nt 42,mv 43]++sg 44 false 45 [mv 11,ln 45,bi .gtr 46 0,mv 47]++sg 48 true 49 [mv 3,bi .eql 49 0]++sg 44 false 51 [pa 48 50]++sq 52 [po 44 51])) (.cond (t0 52) (.seq (.gD (sq 53 [.lQ 53 2 1 []]++sq 8 [mv 53,mb false])) .ret) .skip)) (.seq (.seq (.gD (sq 54 [mv 11,ln 54,bi .eql 55 0])) (.cond (t0 56) (.seq (.gD (sq 57 [mv 10]++sq 8 [mv 57,mb true])) .ret) .skip)) (.seq (.gD (sq 58 [mv 11,.tD 1 (t0 58) (i0 0),ld 59]++sq 10 [mv 60])) (.gD (sq 61 [mv 3,bi .sub 61 1]++sq 3 [mv 62]))))))))))))
theorem Y2:jT Tryz.prog 31 Xv 63 [.tmp 8,.tmp 9]:=mf Tryz.func31 Tryz.ntmps31
def iG(sys:gj)(ac:fP):(Int×fP)->Option ((Int×fP)⊕gx)
 |(fuel_1,now)=>
  (oq sys ac now).bind fun r_4=>
  if r_4.2=true then
   if(decide (0<(r_4.1.length:Int)))=true then
    if(fuel_1==0)=true then
     Option.map Sum.inr (
      some ([],false))
    else
     if((r_4.1.length:Int)==0)=true then
      Option.map Sum.inr (
       some (now,true))
     else
      if 0<=0/\0<(r_4.1.length:Int)then
       some (.inl ((IntKind.i64.wrap (fuel_1-1)),(r_4.1.getD 0 default)))
      else none
   else
    if((r_4.1.length:Int)==0)=true then
     Option.map Sum.inr (
      some (now,true))
    else
     if 0<=0/\0<(r_4.1.length:Int)then
      some (.inl ((IntKind.i64.wrap (fuel_1-1)),(r_4.1.getD 0 default)))
     else none
  else
   Option.map Sum.inr (
    some ([],false))
def kT(sys:gj)(ac:fP)(t:fP)(fuel:Int):Option gx:=
 (mu sys).bind fun r=>
 if r=true then
  (mY sys.1 ac t).bind fun r_1=>
  if r_1=true then
   (mR fuel 0 60).bind fun r_2=>
   if r_2=true then
    (jq sys.1 ac t).bind fun r_3=>
    gK (iG sys ac) (fuel,r_3)
   else
    some ([],false)
  else
   some ([],false)
 else
  some ([],false)
instance JT{sys:gj}{ac:fP}{t:fP}{fuel:Int}:gW (kT sys ac t fuel) fun rr=>pn Tryz.prog 31 [ja sys,(gE 1 iD) ac,(gE 1 iD) t,iD fuel] [(gE 1 iD) rr.1,bD rr.2]:=⟨@fun rr h=>by
 delta kT at h;refine Y2.qn (gC ?_);delta Xv;refine g_ ?_;refine rC h fun r hr h=>?_
 refine iT h fun hc h=>?_
 refine rC h fun r_1 hr_1 h=>?_
 refine iT h fun hc h=>?_
 refine rC h fun r_2 hr_2 h=>?_
 refine iT h fun hc h=>?_
 refine rC h fun r_3 hr_3 h=>?_
 refine jk h [3,8,9,10,11,12,35,36,37,38,39,40,41,42,43,44,45,46,47,48,49,50,51,52,53,54,55,56,57,58,59,60,61,62] (fun pp=>[(3,.d (iD pp.1)),(10,.d (gE 1 iD pp.2))]) (fun pp=>[(4,.obj 58 [.d (gE 1 iD sys.1),.d (gE 2 ir sys.2)])]) ?_;rintro⟨fuel_1,now⟩ t1 h hb1;unfold iG at h;try dsimp only at h
 refine gC (g_ ?_);exact mm⟩
def sP(x:fV):D:=.agg [iD x.1,iD x.2.1,(gE 1 iD) x.2.2]
instance:yG sP 3:=⟨fun _=>rfl⟩
attribute [go_sem] sP
def XD:gH:=
 (.seq (.gD (sq 3 [bo 3 27 0]++sq 6 [.mv (.const (.slice none 0 0))])) (.seq (.seq (.gD (sq 7 [la 1 3,mv 1,mv 2,cf 50 [7,8,9],nt 10])) (.cond (t0 11) (.seq (.gD (sq 12 [.lQ 12 2 1 []]++sq 6 [mv 12])) .ret) .skip)) (.seq (.gD (sq 13 [la 1 3,mv 1,mv 2,cf 62 [13,14,15]]++sq 6 [mv 16])) .ret)))
theorem Y8:jT Tryz.prog 44 XD 17 [.tmp 6]:=mf Tryz.func44 Tryz.ntmps44
def kU(sig:fP)(ac:fP)(t:fP):Option fP:=
 (mY sig ac t).bind fun r=>
 if r=true then
  (jq sig ac t).bind fun r_1=>
  some r_1
 else
  some []
instance JU{sig:fP}{ac:fP}{t:fP}:gW (kU sig ac t) fun rr=>iC Tryz.prog 44 [gQ sig,(gE 1 iD) ac,(gE 1 iD) t] ((gE 1 iD) rr):=⟨@fun rr h=>by
 delta kU at h;refine Y8.iA (gC ?_);delta XD;refine g_ ?_;exact mm⟩
def X1:gH:=
 (.seq (.gD (sq 2 [bo 2 58 0]++sq 4 [mb false])) (.seq (.gD (sq 5 [la 2 2,cf 65 [5],mv 6]++sg 7 true 8 [fa 0 2,la 1 8,mv 1,cf 60 [9,10]]++sq 12 [pa 7 11]++sq 4 [mv 12])) .ret))
theorem Zt:jT Tryz.prog 78 X1 13 [.tmp 4]:=mf Tryz.func78 Tryz.ntmps78
def qF(sys:gj)(t:fP):Option Bool:=
 (mu sys).bind fun r=>
 if r=true then
  (nF sys.1 t).bind fun r_1=>
  some r_1
 else
  some false
instance Nb{sys:gj}{t:fP}:gW (qF sys t) fun rr=>iC Tryz.prog 78 [ja sys,(gE 1 iD) t] (bD rr):=⟨@fun rr h=>by
 delta qF at h;refine Zt.iA (gC ?_);delta X1;refine g_ ?_;exact mm⟩
def SM:gH:=
 (.seq (.gD (sq 4 [bo 4 58 0]++sq 8 [.mv (.const (.slice none 0 0)),mb false])) (.seq (.gD (sq 15 [fa 1 4,ld 15,mv 3,ix 2 16 17,la 2 18]++sq 10 [.alloc 10 135 [.sl 0 (some true) [],.sl 0 (some true) []]]++s0 (sr 2 10 19))) (.seq (.draw (sq 21 [fa 0 4,la 1 21,fa 0 10,ld 23,fa 0 4,la 1 25,mv 1,mv 2,cf 112 [26,27,28],cf 113 [22,24,29]]++sq 20 [mv 30]++sq 31 [ex 20 0,ex 20 1]++sq 11 [.alloc 11 47 [.sl 0 (some true) []]]++s0 (sr 1 11 31)++sq 12 [mv 32]) [[],[0],[],[2],[],[4],[],[],[5,6,7],[1,3,8,8],[9],[10],[10],[],[13,11,9,0,1,2,3,4,5,6,7,8,9,10,11,13],[12,14,0,1,2,3,4,5,6,7,8,9,10,11,12,13,14]]) (.seq (.seq (.gD (sq 33 [mv 12,nt 33])) (.cond (t0 34) (.seq (.gD (sq 35 [.lQ 35 2 1 []]++sq 8 [mv 35,mb false])) .ret) .skip)) (.seq (.gD (sq 37 [la 1 11,fa 1 10,ld 38,cf 61 [37,39]]++sq 36 [mv 40]++sq 41 [ex 36 0,ex 36 1]++sq 13 [mv 41,mv 42])) (.seq (.seq (.gD (sq 43 [mv 14,nt 43])) (.cond (t0 44) (.seq (.gD (sq 45 [.lQ 45 2 1 []]++sq 8 [mv 45,mb false])) .ret) .skip)) (.seq (.gD (sq 46 [fa 0 4,la 1 46,mv 1,mv 2,mv 13,cf 161 [47,48,49,50],ex 51 0,ex 51 1]++sq 8 [mv 52,mv 53])) .ret)))))))
theorem Wv:jT Tryz.prog 133 SM 54 [.tmp 8,.tmp 9]:=mf Tryz.func133 Tryz.ntmps133
def rP(sys:gj)(t:fP)(jV:Int)(rule:Int):Option gx:=
 if 0<=rule/\rule<(sys.2.length:Int)then
  (jX sys.1 t jV).bind fun r=>
  (qD sys.1 ((sys.2.getD rule.toNat default).1) r).bind fun r_1=>
  if r_1.2=true then
   (lC r_1.1 ((sys.2.getD rule.toNat default).2)).bind fun r_2=>
   if r_2.2=true then
    (oD sys.1 t jV r_2.1).bind fun r_3=>
    some r_3
   else
    some ([],false)
  else
   some ([],false)
 else none
instance PS{sys:gj}{t:fP}{jV:Int}{rule:Int}:gW (rP sys t jV rule) fun rr=>pn Tryz.prog 133 [ja sys,(gE 1 iD) t,iD jV,iD rule] [(gE 1 iD) rr.1,bD rr.2]:=⟨@fun rr h=>by
 delta rP at h;refine Wv.qn (gC ?_);delta SM;refine g_ ?_;exact mm⟩
def X2:gH:=
 (.seq (.gD (sq 2 [bo 2 58 0]++sq 4 [.mv (.const (.slice none 0 0))])) (.seq (.gD (sq 10 [.lQ 10 76 3 []]++sq 5 [mv 10])) (.seq (.seq (.gD (sq 6 [mi 0])) (.block 0 (.loop (.seq (.seq (.gD (sq 11 [mv 6,mv 1,ln 12,bn .lss 11 13])) (.cond (t0 14) .skip (.exit 0))) (.seq (.block 1 (.seq (.gD (sq 7 [mi 0])) (.block 2 (.loop (.seq (.seq (.gD (sq 17 [mv 7,fa 1 2,ld 18,ln 19,bn .lss 17 20])) (.cond (t0 21) .skip (.exit 2))) (.seq (.block 3 (.seq (.gD (sq 25 [la 2 2,mv 1,mv 6,mv 7,cf 133 [25,26,27,28]]++sq 24 [mv 29]++sq 30 [ex 24 0,ex 24 1]++sq 8 [mv 30,mv 31])) (.seq (.gD (sq 32 [mv 9])) (.cond (t0 32) (.gD (sq 33 [mv 5,mv 6,mv 7,mv 8,.build [.lit (.int .i64 0),.lit (.int .i64 0),.sl 0 (some true) []] [(0,1,(t0 34)),(1,1,(t0 35)),(2,1,(t0 36))],.lQ 38 76 3 [(t0 37)],ap 39 76 3 40 33 38]++sq 5 [mv 39])) .skip)))) (.gD (sq 22 [mv 7,bi .add 22 1]++sq 7 [mv 23])))))))) (.gD (sq 15 [mv 6,bi .add 15 1]++sq 6 [mv 16]))))))) (.seq (.gD (sq 40 [mv 5]++sq 4 [mv 40])) .ret))))
theorem Zu:jT Tryz.prog 79 X2 41 [.tmp 4]:=mf Tryz.func79 Tryz.ntmps79
def tR(sys:gj)(t:fP)(jV:Int):((List fV)×Int)->Option (((List fV)×Int)⊕(((List fV)×Int)⊕(List fV)))
 |(out_1,rule)=>
  if(decide (rule<(sys.2.length:Int)))=true then
   (rP sys t jV rule).bind fun r=>
   if r.2=true then
    if(out_1.length+1)*40<=140737488355328 then
     some (.inl ((out_1++[(jV,rule,r.1)]),(IntKind.i64.wrap (rule+1))))
    else none
   else
    some (.inl (out_1,(IntKind.i64.wrap (rule+1))))
  else
   Option.map Sum.inr (
    some (.inl (out_1,(IntKind.i64.wrap (jV+1)))))
def tQ(sys:gj)(t:fP):((List fV)×Int)->Option (((List fV)×Int)⊕(List fV))
 |(out,jV)=>
  if(decide (jV<(t.length:Int)))=true then
   gK (tR sys t jV) (out,0)
  else
   Option.map Sum.inr (
    some out)
def qG(sys:gj)(t:fP):Option (List fV):=
 gK (tQ sys t) ([],0)
instance Nc{sys:gj}{t:fP}:gW (qG sys t) fun rr=>iC Tryz.prog 79 [ja sys,(gE 1 iD) t] ((gE 3 sP) rr):=⟨@fun rr h=>by
 delta qG at h;refine Zu.iA (gC ?_);delta X2;refine g_ ?_;refine jk h [5,6,7,8,9,11,12,13,14,15,16,17,18,19,20,21,22,23,24,25,26,27,28,29,30,31,32,33,34,35,36,37,38,39] (fun pp=>[(5,.own 3 10 (List.map sP pp.1)),(6,.d (iD pp.2))]) (fun pp=>[(2,.obj 58 [.d (gE 1 iD sys.1),.d (gE 2 ir sys.2)]),(10,.tok 76 3 pp.1.length)]) ?_;rintro⟨out,jV⟩ t1 h hb1;unfold tQ at h;try dsimp only at h
 refine gC (g_ ?_);refine iT h fun hc h=>?_
 refine jk h [5,7,8,9,17,18,19,20,21,22,23,24,25,26,27,28,29,30,31,32,33,34,35,36,37,38,39] (fun pp=>[(5,.own 3 10 (List.map sP pp.1)),(7,.d (iD pp.2))]) (fun pp=>[(2,.obj 58 [.d (gE 1 iD sys.1),.d (gE 2 ir sys.2)]),(10,.tok 76 3 pp.1.length)]) ?_;rintro⟨out_1,rule⟩ t2 h hb2;unfold tR at h;try dsimp only at h
 refine gC (g_ ?_);refine iT h fun hc h=>?_
 refine TI h fun r hr h=>?_
 refine iT h fun hc h=>?_
 refine iU h fun hp h=>?_
 cases h;refine⟨_,rfl,?_⟩;refine(gT.drop 38 gB).trans ?_;exact wk⟩
def XH:gH:=
 (.seq (.gD (sq 2 [bo 2 58 0]++sq 4 [.mv (.const (.slice none 0 0))])) (.seq (.seq (.gD (sq 5 [la 2 2,mv 1,cf 78 [5,6],nt 7])) (.cond (t0 8) (.seq (.gD (sq 9 [.lQ 9 76 3 []]++sq 4 [mv 9])) .ret) .skip)) (.seq (.gD (sq 10 [la 2 2,mv 1,cf 79 [10,11]]++sq 4 [mv 12])) .ret)))
theorem Za:jT Tryz.prog 47 XH 13 [.tmp 4]:=mf Tryz.func47 Tryz.ntmps47
def qS(sys:gj)(t:fP):Option (List fV):=
 (qF sys t).bind fun r=>
 if r=true then
  (qG sys t).bind fun r_1=>
  some r_1
 else
  some []
instance KZ{sys:gj}{t:fP}:gW (qS sys t) fun rr=>iC Tryz.prog 47 [ja sys,(gE 1 iD) t] ((gE 3 sP) rr):=⟨@fun rr h=>by
 delta qS at h;refine Za.iA (gC ?_);delta XH;refine g_ ?_;exact mm⟩
end Go.Proofs.YthdnkoejpdcnpaaGreat
