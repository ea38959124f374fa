/- A part of the proof about FnJoinedPeaks (J3, J2, L1, UQ, Q1, Q2, Q3). -/
import Derived.Test.YtjgbnaihpicpgaaGreatDoorPg
import Derived.Test.YtjgbnaihpicpgaaGreatDoorPj
import Derived.Test.YtjgbnaihpicpgaaGreatDoorPk
set_option linter.all false
noncomputable section
namespace Go.Proofs.YtjgbnaihpicpgaaGreatDoor
open Go mm
attribute [local irreducible] rj vP uV mz lN nj kj Au Bm zm Bl yp tF lM nc AJ iS kN
set_option maxHeartbeats 4000000
set_option maxRecDepth 4000
def X8:ie:=
 (.seq (.h_ (sq 2 [mb false])) (.seq (.h_ (sq 3 [mv 0,bi .geq 3 0,mv 4]++sg 5 true 6 [mv 0,bi .leq 6 20]++sq 8 [pa 5 7]++sq 2 [mv 8])) .ret))
theorem ZS:kH Tryz.prog 33 X8 9 [.tmp 2]:=mf Tryz.func33 Tryz.ntmps33
def oB(steps:Int):Option Bool:=
 if(decide (0<=steps))=true then
  some (decide (steps<=20))
 else
  some false
instance PX{steps:Int}:iR (oB steps) fun rr=>jU Tryz.prog 33 [iD steps] (bD rr):=⟨@fun rr h=>by
 delta oB at h;refine ZS.jC (gZ ?_);delta X8;refine iN ?_;exact mA⟩
def Yq:ie:=
 (.seq (.h_ (sq 4 [mi 0])) (.seq (.seq (.h_ (sq 6 [mv 0,ln 6,mi 0])) (.block 0 (.loop (.seq (.h_ (sq 9 [bn .lss 8 7])) (.seq (.cond (t0 9) .skip (.exit 0)) (.seq (.block 1 (.seq (.h_ (sq 10 [mv 8]++sq 5 [mv 10])) (.seq (.h_ (sq 11 [mv 1,mv 0,mv 5,ix 6 12 13,la 6 14,.ng (t0 11) [(t0 15)]])) (.cond (t0 16) (.seq (.h_ (sq 17 [mv 5]++sq 4 [mv 17])) .ret) .skip)))) (.h_ (sq 18 [bi .add 8 1]++sq 8 [mv 18])))))))) (.seq (.h_ (sq 4 [mi (-1)])) .ret)))
theorem aab:kH Tryz.prog 68 Yq 19 [.tmp 4]:=mf Tryz.func68 Tryz.ntmps68
def jB(s:gL)(o00:gv)(o01:gC)(o1:Int):Int->Option (Int⊕Int)
 |v8=>
  if(decide (v8<(s.length:Int)))=true then
   if 0<=v8/\v8<(s.length:Int)then
    (oe ((s.getD v8.toNat default).1,(s.getD v8.toNat default).2.1,(s.getD v8.toNat default).2.2.1,(s.getD v8.toNat default).2.2.2.1,(s.getD v8.toNat default).2.2.2.2.1,(s.getD v8.toNat default).2.2.2.2.2) o00 o01 o1).bind fun r=>
    if r=true then
     Option.map Sum.inr (
      some v8)
    else
     some (.inl (IntKind.i64.wrap (v8+1)))
   else none
  else
   Option.map Sum.inr (
    some (-1))
def jr(s:gL)(o00:gv)(o01:gC)(o1:Int):Option Int:=
 iw (jB s o00 o01 o1) 0
instance yH{s:gL}{o00:gv}{o01:gC}{o1:Int}:iR (jr s o00 o01 o1) fun rr=>iC Tryz.prog 68 [.d (ia 6 jv s),.fn 36 [] [.ptr 0 0,.ptr 1 0]] [(0,.obj 33 [.d (ia 1 iD o00),.d (ia 2 g_ o01)]),(1,.obj 2 [.d (iD o1)])] 2 fun xx ss=>xx=.d (iD rr)/\ss=[(0,.obj 33 [.d (ia 1 iD o00),.d (ia 2 g_ o01)]),(1,.obj 2 [.d (iD o1)])]:=⟨@fun rr h=>by
 delta jr at h;refine aab.lO (gZ ?_);delta Yq;refine iN ?_;refine kT h [4,5,8,9,10,11,12,13,14,15,16,17,18] (fun pp=>[(8,.d (iD pp))]) (fun pp=>[(0,.obj 33 [.d (ia 1 iD o00),.d (ia 2 g_ o01)]),(1,.obj 2 [.d (iD o1)])]) ?_;rintro v8 t1 h hb1;unfold jB at h;try dsimp only at h
 refine gZ (iN ?_);refine iT h fun hc h=>?_
 refine j_ h fun hp h=>?_
 refine yW (by kernel_rfl) ?_;refine rB [(0,0),(1,1)] [] h fun r hr h=>?_
 exact mA⟩
def X_:ie:=
 (.seq (.h_ (sq 4 [mb false])) (.seq (.h_ (sq 5 [mv 0,mv 1,cf 68 [5,6],bi .geq 7 0]++sq 4 [mv 8])) .ret))
theorem ZU:kH Tryz.prog 35 X_ 9 [.tmp 4]:=mf Tryz.func35 Tryz.ntmps35
def jA(s:gL)(o00:gv)(o01:gC)(o1:Int):Option Bool:=
 (jr s o00 o01 o1).bind fun r=>
 some (decide (0<=r))
instance yd{s:gL}{o00:gv}{o01:gC}{o1:Int}:iR (jA s o00 o01 o1) fun rr=>iC Tryz.prog 35 [.d (ia 6 jv s),.fn 36 [] [.ptr 0 0,.ptr 1 0]] [(0,.obj 33 [.d (ia 1 iD o00),.d (ia 2 g_ o01)]),(1,.obj 2 [.d (iD o1)])] 2 fun xx ss=>xx=.d (bD rr)/\ss=[(0,.obj 33 [.d (ia 1 iD o00),.d (ia 2 g_ o01)]),(1,.obj 2 [.d (iD o1)])]:=⟨@fun rr h=>by
 delta jA at h;refine ZU.lO (gZ ?_);delta X_;refine iN ?_;refine rB [(0,0),(1,1)] [] h fun r hr h=>?_
 exact mA⟩
def mc9:ie:=
 (.seq (.h_ (sq 2 [bo 2 33 0,bo 3 2 1,mb false])) (.seq (.seq (.h_ (sq 7 [la 2 2,cf 32 [7],nt 8,mv 9]++sg 10 false 11 [ld 3,cf 33 [11],nt 12]++sq 14 [po 10 13])) (.cond (t0 14) (.seq (.h_ (sq 4 [mb false])) .ret) .skip)) (.seq (.h_ (sq 16 [la 2 2,cf 34 [16]]++sq 15 [mv 17]++sq 18 [ex 15 0,ex 15 1]++sq 5 [mv 18,mv 19])) (.seq (.h_ (sq 20 [mv 6,mv 20]++sg 21 true 22 [mv 5,.A2 36 [] [(t0 2),(t0 3)],cf 35 [22,23],nt 24]++sq 26 [pa 21 25]++sq 4 [mv 26])) .ret))))
theorem fn9:kH Tryz.prog 9 mc9 27 [.tmp 4]:=mf Tryz.func9 Tryz.ntmps9
def nT(sys:gJ)(steps:Int):Option Bool:=
 (lK sys).bind fun r=>
 if r=true then
  (oB steps).bind fun r_1=>
  if r_1=true then
   (qL sys).bind fun r_2=>
   if r_2.2=true then
    (jA r_2.1 sys.1 sys.2 steps).bind fun r_3=>
    some (!r_3)
   else
    some false
  else
   some false
 else
  some false
instance MD{sys:gJ}{steps:Int}:iR (nT sys steps) fun rr=>jU Tryz.prog 9 [iA sys,iD steps] (bD rr):=⟨@fun rr h=>by
 delta nT at h;refine fn9.jC (gZ ?_);delta mc9;refine iN ?_;refine rC h fun r hr h=>?_
 refine iT h fun hc h=>?_
 refine rC h fun r_1 hr_1 h=>?_
 refine iT h fun hc h=>?_
 refine R8 h fun r_2 hr_2 h=>?_
 refine iT h fun hc h=>?_
 refine rB [(0,2),(1,3)] [] h fun r_3 hr_3 h=>?_
 exact mA⟩
def yt(x:gN):D:=.agg [(ia 1 (ia 1 iD)) x.1,(ia 1 iD) x.2.1,(ia 3 iW) x.2.2.1,(ia 1 iD) x.2.2.2.1,bD x.2.2.2.2]
instance:wC yt 5:=⟨fun _=>rfl⟩
attribute [go_sem] yt
def XZ:ie:=
 (.seq (.h_ (sq 1 [bo 1 33 0,.mv (.const (.slice none 0 0)),mb false])) (.seq (.seq (.h_ (sq 4 [la 2 1,cf 44 [4],nt 5])) (.cond (t0 6) (.seq (.h_ (sq 7 [.mP 7 54 6 []]++sq 2 [mv 7,mb false])) .ret) .skip)) (.seq (.h_ (sq 8 [la 2 1,cf 45 [8],ex 9 0,ex 9 1]++sq 2 [mv 10,mv 11])) .ret)))
theorem ZK:kH Tryz.prog 15 XZ 12 [.tmp 2,.tmp 3]:=mf Tryz.func15 Tryz.ntmps15
def qw(sys:gJ):Option (gL×Bool):=
 (n_ sys).bind fun r=>
 if r=true then
  (ug sys).bind fun r_1=>
  some r_1
 else
  some ([],false)
instance Nv{sys:gJ}:iR (qw sys) fun rr=>oH Tryz.prog 15 [iA sys] [(ia 6 jv) rr.1,bD rr.2]:=⟨@fun rr h=>by
 delta qw at h;refine ZK.pg (gZ ?_);delta XZ;refine iN ?_;exact mA⟩
def Yh:ie:=
 (.seq (.h_ (sq 2 [bo 2 33 0]++sq 4 [mb false])) (.seq (.h_ (sq 5 [la 2 2,cf 44 [5],mv 6]++sg 7 true 8 [fa 0 2,la 1 8,mv 1,cf 84 [9,10]]++sq 12 [pa 7 11]++sq 4 [mv 12])) .ret))
theorem Z2:kH Tryz.prog 49 Yh 13 [.tmp 4]:=mf Tryz.func49 Tryz.ntmps49
def mG(sys:gJ)(t:gv):Option Bool:=
 (n_ sys).bind fun r=>
 if r=true then
  (m_ sys.1 t).bind fun r_1=>
  some r_1
 else
  some false
instance NI{sys:gJ}{t:gv}:iR (mG sys t) fun rr=>jU Tryz.prog 49 [iA sys,(ia 1 iD) t] (bD rr):=⟨@fun rr h=>by
 delta mG at h;refine Z2.jC (gZ ?_);delta Yh;refine iN ?_;exact mA⟩
def s_(sys:gJ)(t:gv)(steps:Int):Option Bool:=
 (mG sys t).bind fun r=>
 if r=true then
  (kX steps 0 20).bind fun r_1=>
  some r_1
 else
  some false
def qc(list:gx)(t:gv):Int->Option (Int⊕Int)
 |i=>
  if(decide (i<(list.length:Int)))=true then
   if 0<=i/\i<(list.length:Int)then
    (kG (list.getD i.toNat default) t).bind fun r=>
    if r=true then
     Option.map Sum.inr (
      some i)
    else
     some (.inl (IntKind.i64.wrap (i+1)))
   else none
  else
   Option.map Sum.inr (
    some (-1))
def pM(list:gx)(t:gv):Option Int:=
 iw (qc list t) 0
def oY(i:Int)(r_1:gD):gU->Option (gU⊕(gU⊕gN))
 |(k,f_4,f_5,f_6,f_7)=>
  if(decide (k<(r_1.length:Int)))=true then
   if 0<=k/\k<(r_1.length:Int)then
    (pM f_4 ((r_1.getD k.toNat default).2.2)).bind fun r_2=>
    if(decide (0<=r_2))=true then
     some (.inl ((IntKind.i64.wrap (k+1)),f_4,f_5,f_6,f_7))
    else
     if((f_4.length:Int)==60)=true then
      Option.map Sum.inr (
       Option.map Sum.inr (
        some (f_4,f_5,f_6,f_7,false)))
     else
      if 0<=k/\k<(r_1.length:Int)then
       if(f_4.length+1)*24<=140737488355328 then
        if(f_5.length+1)*8<=140737488355328 then
         if 0<=k/\k<(r_1.length:Int)then
          if(f_6.length+1)*40<=140737488355328 then
           if 0<=i/\i<(f_7.length:Int)then
            if(f_7.length+1)*8<=140737488355328 then
             some (.inl ((IntKind.i64.wrap (k+1)),(f_4++[(r_1.getD k.toNat default).2.2]),(f_5++[i]),(f_6++[((r_1.getD k.toNat default).1,(r_1.getD k.toNat default).2.1,(r_1.getD k.toNat default).2.2)]),(f_7++[(IntKind.i64.wrap ((f_7.getD i.toNat default)+1))])))
            else none
           else none
          else none
         else none
        else none
       else none
      else none
   else none
  else
   Option.map Sum.inr (
    some (.inl ((IntKind.i64.wrap (i+1)),f_4,f_5,f_6,f_7)))
def ni(sys:gJ)(steps:Int):gU->Option (gU⊕gN)
 |(i,f,f_1,f_2,f_3)=>
  if(decide (i<(f.length:Int)))=true then
   if 0<=i/\i<(f_3.length:Int)then
    if((f_3.getD i.toNat default)==steps)=true then
     some (.inl ((IntKind.i64.wrap (i+1)),f,f_1,f_2,f_3))
    else
     if 0<=i/\i<(f.length:Int)then
      (vA sys (f.getD i.toNat default)).bind fun r_1=>
      iw (oY i r_1) (0,f,f_1,f_2,f_3)
     else none
   else none
  else
   Option.map Sum.inr (
    some (f,f_1,f_2,f_3,true))
def uj(sys:gJ)(t:gv)(steps:Int):Option gN:=
 (jo t).bind fun r=>
 iw (ni sys steps) (0,[r],[(-1)],[(0,0,[])],[0])
def qU(back:gD)(r:gv):(Int×gD)->Option ((Int×gD)⊕gM)
 |(i,w)=>
  if(decide (0<=i))=true then
   if 0<=i/\i<(back.length:Int)then
    if 0<=i/\i<(back.length:Int)then
     if 0<=i/\i<(back.length:Int)then
      (jo ((back.getD i.toNat default).2.2)).bind fun r_1=>
      if(w.length+1)*40<=140737488355328 then
       some (.inl ((IntKind.i64.wrap (i-1)),(w++[((back.getD i.toNat default).1,(back.getD i.toNat default).2.1,r_1)])))
      else none
     else none
    else none
   else none
  else
   Option.map Sum.inr (
    some (r,w))
def oZ(f:gN):(Int×gD)->Option ((Int×gD)⊕gM)
 |(at'_1,back)=>
  if 0<=at'_1/\at'_1<(f.2.1.length:Int)then
   if(decide (0<=(f.2.1.getD at'_1.toNat default)))=true then
    if 0<=at'_1/\at'_1<(f.2.2.1.length:Int)then
     if(back.length+1)*40<=140737488355328 then
      if 0<=at'_1/\at'_1<(f.2.1.length:Int)then
       some (.inl ((f.2.1.getD at'_1.toNat default),(back++[((f.2.2.1.getD at'_1.toNat default).1,(f.2.2.1.getD at'_1.toNat default).2.1,(f.2.2.1.getD at'_1.toNat default).2.2)])))
      else none
     else none
    else none
   else
    Option.map Sum.inr (
     if 0<=0/\0<(f.1.length:Int)then
      (jo (f.1.getD 0 default)).bind fun r=>
      iw (qU back r) ((IntKind.i64.wrap ((back.length:Int)-1)),[])
     else none)
  else none
def uk(f:gN)(at':Int):Option gM:=
 iw (oZ f) (at',[])
def oR(r_2:gN)(r_3:gN):Int->Option (Int⊕(gM×gM×Bool))
 |i=>
  if(decide (i<(r_2.1.length:Int)))=true then
   if 0<=i/\i<(r_2.1.length:Int)then
    (pM r_3.1 (r_2.1.getD i.toNat default)).bind fun r_4=>
    if(decide (0<=r_4))=true then
     (uk r_2 i).bind fun r_5=>
     (uk r_3 r_4).bind fun r_6=>
     Option.map Sum.inr (
      some (r_5,r_6,true))
    else
     some (.inl (IntKind.i64.wrap (i+1)))
   else none
  else
   Option.map Sum.inr (
    some (([],[]),([],[]),false))
def wD(sys:gJ)(a:gv)(b:gv)(steps:Int):Option (gM×gM×Bool):=
 (s_ sys a steps).bind fun r=>
 if r=true then
  (s_ sys b steps).bind fun r_1=>
  if r_1=true then
   (uj sys a steps).bind fun r_2=>
   (uj sys b steps).bind fun r_3=>
   iw (oR r_2 r_3) 0
  else
   some (([],[]),([],[]),false)
 else
  some (([],[]),([],[]),false)
def yy(sys:gJ)(a:gv)(b:gv)(steps:Int):Option Bool:=
 (wD sys a b steps).bind fun r=>
 some r.2.2
def CU(x:gv):D:=.agg [(ia 1 iD) x]
def yq(x:gz):D:=.agg [(ia 1 iD) x.1,(ia 1 iD) x.2]
def zS(x:gJ):D:=.agg [(ia 1 iD) x.1,(ia 2 yq) x.2]
instance:wC CU 1:=⟨fun _=>rfl⟩
instance:wC yq 2:=⟨fun _=>rfl⟩
instance:wC zS 2:=⟨fun _=>rfl⟩
attribute [go_sem] CU yq zS
def rS(sys:gJ)(p:gw)(steps:Int):Option (Unit⊕Unit):=
 (jY sys p.2.1 p.2.2.1 steps).map fun rr=>if rr.2.2=true then .inl ()else .inr ()
instance MH{sys:gJ}{p:gw}{steps:Int}:iR (rS sys p steps) fun a=>iC Tryz.prog 38 [.d (.agg [ia 1 iD sys.1,ia 2 g_ sys.2]),.d (.agg [ia 1 iD p.1,ia 1 iD p.2.1,ia 1 iD p.2.2.1,iD p.2.2.2.1,iD p.2.2.2.2.1,iD p.2.2.2.2.2]),.d (iD steps)] [] ([]:List gF).length fun x s'=>x=Sum.elim (fun _=>.d (.lit .nilIface)) (fun _=>.Ea 84 [ia 1 iD p.1,ia 1 iD p.2.1,ia 1 iD p.2.2.1,iD p.2.2.2.1,iD p.2.2.2.2.1,iD p.2.2.2.2.2,.any]) a/\s'=Sum.elim (fun _=>[]) (fun _=>[]) a:=⟨@fun a h=>by
 obtain⟨rr,hj,rfl⟩:=az.1 h;refine iC.mono (Cu hj) fun x s' ⟨hx,hs⟩=>?_
 subst hx hs;by_cases hr:rr.2.2=true
 ·simp only[ah hr,dP];exact⟨_,AV.le_refl _,rfl,trivial⟩
 ·simp only[ak hr,d_];exact⟨_,AV.le_refl _,rfl,trivial⟩⟩
def X0:ie:=
 (.seq (.h_ (sq 2 [bo 2 33 0]++sq 4 [.mv (.const (.slice none 0 0))])) (.seq (.seq (.h_ (sq 12 [la 2 2,cf 32 [12],nt 13,mv 14]++sg 15 false 16 [mv 1,cf 33 [16],nt 17]++sq 19 [po 15 18])) (.cond (t0 19) (.seq (.h_ (sq 4 [.mv (.const (.slice none 0 0))])) .ret) .skip)) (.seq (.h_ (sq 5 [.mv (.const (.slice none 0 0))])) (.seq (.h_ (sq 21 [la 2 2,cf 34 [21]]++sq 20 [mv 22]++sq 23 [ex 20 0,ex 20 1]++sq 6 [mv 23,mv 24])) (.seq (.seq (.h_ (sq 25 [mv 6,ln 25,mi 0])) (.block 0 (.loop (.seq (.h_ (sq 28 [bn .lss 27 26])) (.seq (.cond (t0 28) .skip (.exit 0)) (.seq (.block 1 (.seq (.h_ (sq 29 [ix 6 25 27,la 6 29]++sq 9 [.alloc 9 54 [.sl 0 (some true) [],.sl 0 (some true) [],.sl 0 (some true) [],.lit (.int .i64 0),.lit (.int .i64 0),.lit (.int .i64 0)]]++s0 (sr 6 9 30))) (.seq (.h_ (sq 32 [la 2 2,la 6 9,mv 1,cf 38 [32,33,34],cf 46 [35]]++sq 31 [mv 36]++sq 37 [ex 31 0,ex 31 1]++sq 10 [mv 37,mv 38])) (.seq (.h_ (sq 39 [mv 11])) (.cond (t0 39) (.h_ (sq 40 [mv 5,mv 10,.me (t0 41),fa 0 42,la 6 43,.mP 45 54 6 [(t0 44)],ap 46 54 6 96 40 45]++sq 5 [mv 46])) .skip))))) (.h_ (sq 47 [bi .add 27 1]++sq 27 [mv 47])))))))) (.seq (.h_ (sq 48 [mv 5]++sq 4 [mv 48])) .ret))))))
theorem ZL:kH Tryz.prog 16 X0 49 [.tmp 4]:=mf Tryz.func16 Tryz.ntmps16
def om(sys:gJ)(steps:Int)(r:gL):gV->Option (gV⊕gL)
 |(out,v27)=>
  if(decide (v27<(r.length:Int)))=true then
   if 0<=v27/\v27<(r.length:Int)then
    (rS sys ((r.getD v27.toNat default).1,(r.getD v27.toNat default).2.1,(r.getD v27.toNat default).2.2.1,(r.getD v27.toNat default).2.2.2.1,(r.getD v27.toNat default).2.2.2.2.1,(r.getD v27.toNat default).2.2.2.2.2) steps).bind (Sum.elim (fun _=>
     some (.inl (out,(IntKind.i64.wrap (v27+1)))))
     fun _=>
     if(out.length+1)*96<=140737488355328 then
      some (.inl ((out++[((r.getD v27.toNat default).1,(r.getD v27.toNat default).2.1,(r.getD v27.toNat default).2.2.1,(r.getD v27.toNat default).2.2.2.1,(r.getD v27.toNat default).2.2.2.2.1,(r.getD v27.toNat default).2.2.2.2.2)]),(IntKind.i64.wrap (v27+1))))
     else none)
   else none
  else
   Option.map Sum.inr (
    some out)
def oh(sys:gJ)(steps:Int):Option gL:=
 (lK sys).bind fun r=>
 if r=true then
  (oB steps).bind fun r_1=>
  if r_1=true then
   (qL sys).bind fun r_2=>
   iw (om sys steps r_2.1) ([],0)
  else
   some []
 else
  some []
instance JY{sys:gJ}{steps:Int}:iR (oh sys steps) fun rr=>jU Tryz.prog 16 [iA sys,iD steps] ((ia 6 jv) rr):=⟨@fun rr h=>by
 delta oh at h;refine ZL.jC (gZ ?_);delta X0;refine iN ?_;refine rC h fun r hr h=>?_
 refine iT h fun hc h=>?_
 refine rC h fun r_1 hr_1 h=>?_
 refine iT h fun hc h=>?_
 refine R8 h fun r_2 hr_2 h=>?_
 refine um h [5,9,10,11,27,28,29,30,31,32,33,34,35,36,37,38,39,40,41,42,43,44,45,46,47] (fun pp=>[(5,.own 6 46 (List.map jv pp.1)),(27,.d (iD pp.2))]) (fun pp=>[(2,.obj 33 [.d (ia 1 iD sys.1),.d (ia 2 g_ sys.2)]),(46,.tok 54 6 pp.1.length)]) ?_ ?_
 ·try dsimp only
  refine(iL.Mj 5 46 54 6 rfl rfl).trans ?_;exact wk
 rintro⟨out,v27⟩ t1 h hb1;unfold om at h;try dsimp only at h
 refine gZ (iN ?_);refine iT h fun hc h=>?_
 refine j_ h fun hp h=>?_
 refine CA [] [] h (fun rt hrt h=>?_) fun rf hrf h=>?_
 ·refine AI [] [] AF rfl (by decide) (by decide) (by simp) mT mT (iN ?_);cases h;refine⟨_,rfl,?_⟩;refine(iL.drop 9 gY).trans ?_;exact wk
 ·refine AI [] [] BA rfl (by decide) (by decide) (by simp) mT mT (iN ?_);refine j_ h fun hp h=>?_
  cases h;refine⟨_,rfl,?_⟩;refine(iL.drop 9 gY).trans ((iL.drop 45 gY).trans ?_);exact wk⟩
def Te:ie:=
 (.seq (.h_ (sq 2 [bo 2 33 0]++sq 4 [mb false])) (.seq (.h_ (sq 5 [mv 1,bi .geq 5 0,mv 6]++sg 7 true 8 [mv 1,fa 1 2,ld 9,ln 10,bn .lss 8 11]++sq 13 [pa 7 12]++sq 4 [mv 13])) .ret))
theorem WH:kH Tryz.prog 107 Te 14 [.tmp 4]:=mf Tryz.func107 Tryz.ntmps107
def pW(sys:gJ)(rule:Int):Option Bool:=
 if(decide (0<=rule))=true then
  some (decide (rule<(sys.2.length:Int)))
 else
  some false
instance P2{sys:gJ}{rule:Int}:iR (pW sys rule) fun rr=>jU Tryz.prog 107 [iA sys,iD rule] (bD rr):=⟨@fun rr h=>by
 delta pW at h;refine WH.jC (gZ ?_);delta Te;refine iN ?_;exact mA⟩
def TK:ie:=
 (.seq (.h_ (sq 3 [bo 3 30 0]++sq 6 [mb false])) (.seq (.h_ (sq 7 [la 1 3,mv 1,cf 89 [7,8],mv 9]++sg 10 true 11 [mv 2,bi .geq 11 0]++sq 13 [pa 10 12,mv 13]++sg 14 true 15 [mv 2,mv 1,ln 16,bn .lss 15 17]++sq 19 [pa 14 18]++sq 6 [mv 19])) .ret))
theorem Xn:kH Tryz.prog 151 TK 20 [.tmp 6]:=mf Tryz.func151 Tryz.ntmps151
def uX(sig:gv)(t:gv)(at':Int):Option Bool:=
 (mY sig t).bind fun r=>
 if r=true then
  if(decide (0<=at'))=true then
   some (decide (at'<(t.length:Int)))
  else
   some false
 else
  some false
instance QI{sig:gv}{t:gv}{at':Int}:iR (uX sig t at') fun rr=>jU Tryz.prog 151 [jd sig,(ia 1 iD) t,iD at'] (bD rr):=⟨@fun rr h=>by
 delta uX at h;refine Xn.jC (gZ ?_);delta TK;refine iN ?_;exact mA⟩
def Tz:ie:=
 (.seq (.h_ (sq 4 [bo 4 33 0]++sq 8 [mb false])) (.seq (.h_ (sq 9 [la 2 4,cf 32 [9],mv 10]++sg 11 true 12 [fa 0 4,la 1 12,mv 1,mv 2,cf 151 [13,14,15]]++sq 17 [pa 11 16,mv 17]++sg 18 true 19 [mv 3,bi .geq 19 0]++sq 21 [pa 18 20,mv 21]++sg 22 true 23 [mv 3,fa 1 4,ld 24,ln 25,bn .lss 23 26]++sq 28 [pa 22 27]++sq 8 [mv 28])) .ret))
theorem Xa:kH Tryz.prog 134 Tz 29 [.tmp 8]:=mf Tryz.func134 Tryz.ntmps134
def rT(sys:gJ)(t:gv)(at':Int)(rule:Int):Option Bool:=
 (lK sys).bind fun r=>
 if r=true then
  (uX sys.1 t at').bind fun r_1=>
  if r_1=true then
   if(decide (0<=rule))=true then
    some (decide (rule<(sys.2.length:Int)))
   else
    some false
  else
   some false
 else
  some false
instance MK{sys:gJ}{t:gv}{at':Int}{rule:Int}:iR (rT sys t at' rule) fun rr=>jU Tryz.prog 134 [iA sys,(ia 1 iD) t,iD at',iD rule] (bD rr):=⟨@fun rr h=>by
 delta rT at h;refine Xa.jC (gZ ?_);delta Tz;refine iN ?_;exact mA⟩
def Tf:ie:=
 (.seq (.h_ (sq 4 [bo 4 33 0]++sq 8 [.mv (.const (.slice none 0 0)),mb false])) (.seq (.seq (.h_ (sq 10 [la 2 4,mv 1,mv 2,mv 3,cf 134 [10,11,12,13],nt 14])) (.cond (t0 15) (.seq (.h_ (sq 8 [.mv (.const (.slice none 0 0)),mb false])) .ret) .skip)) (.seq (.h_ (sq 16 [la 2 4,mv 1,mv 2,mv 3,cf 135 [16,17,18,19],ex 20 0,ex 20 1]++sq 8 [mv 21,mv 22])) .ret)))
theorem WI:kH Tryz.prog 108 Tf 23 [.tmp 8,.tmp 9]:=mf Tryz.func108 Tryz.ntmps108
def mX(sys:gJ)(t:gv)(at':Int)(rule:Int):Option gW:=
 (rT sys t at' rule).bind fun r=>
 if r=true then
  (sy sys t at' rule).bind fun r_1=>
  some r_1
 else
  some ([],false)
instance PU{sys:gJ}{t:gv}{at':Int}{rule:Int}:iR (mX sys t at' rule) fun rr=>oH Tryz.prog 108 [iA sys,(ia 1 iD) t,iD at',iD rule] [(ia 1 iD) rr.1,bD rr.2]:=⟨@fun rr h=>by
 delta mX at h;refine WI.pg (gZ ?_);delta Tf;refine iN ?_;exact mA⟩
def TC:ie:=
 (.seq (.h_ (sq 4 [bo 4 30 0]++sq 8 [mb false])) (.seq (.h_ (sq 9 [mv 3,mv 2,bn .geq 9 10,mv 11]++sg 12 true 13 [mv 3,la 1 4,mv 1,mv 2,cf 127 [14,15,16],bn .lss 13 17]++sq 19 [pa 12 18]++sq 8 [mv 19])) .ret))
theorem Xe:kH Tryz.prog 137 TC 20 [.tmp 8]:=mf Tryz.func137 Tryz.ntmps137
def rG(sig:gv)(t:gv)(at':Int)(p:Int):Option Bool:=
 if(decide (at'<=p))=true then
  (lz sig t at').bind fun r=>
  some (decide (p<r))
 else
  some false
instance PY{sig:gv}{t:gv}{at':Int}{p:Int}:iR (rG sig t at' p) fun rr=>jU Tryz.prog 137 [jd sig,(ia 1 iD) t,iD at',iD p] (bD rr):=⟨@fun rr h=>by
 delta rG at h;refine Xe.jC (gZ ?_);delta TC;refine iN ?_;exact mA⟩
def Ti:ie:=
 (.seq (.h_ (sq 3 [bo 3 30 0]++sq 6 [.mv (.const (.slice none 0 0))])) (.scope (.seq (.h_ (sq 7 [.mv (.const (.slice none 0 0))])) (.seq (.h_ (sq 8 [mi 0])) (.seq .label (.seq (.block 0 (.loop (.seq (.seq (.h_ (sq 11 [mv 8,mv 2,bn .neq 11 12])) (.cond (t0 13) .skip (.exit 0))) (.block 1 (.seq (.h_ (sq 14 [la 1 3,mv 1,mv 8,cf 136 [14,15,16],ln 17,mi 0])) (.block 2 (.loop (.seq (.h_ (sq 20 [bn .lss 19 18])) (.seq (.cond (t0 20) .skip (.exit 2)) (.seq (.block 3 (.seq (.h_ (sq 21 [mv 19,ix 1 17 19,ld 22]++sq 9 [mv 21,mv 23])) (.seq (.h_ (sq 24 [la 1 3,mv 1,mv 10,mv 2,cf 137 [24,25,26,27]])) (.cond (t0 28) (.seq (.h_ (sq 29 [mv 7,mv 9,.mP 31 2 1 [(t0 30)],ap 32 2 1 8 29 31]++sq 7 [mv 32])) (.seq (.h_ (sq 33 [mv 10]++sq 8 [mv 33])) (.exit 1))) .skip)))) (.h_ (sq 34 [bi .add 19 1]++sq 19 [mv 34])))))))))))) (.seq (.h_ (sq 35 [mv 7]++sq 6 [mv 35])) .ret)))))))
theorem WL:kH Tryz.prog 111 Ti 36 [.tmp 6]:=mf Tryz.func111 Tryz.ntmps111
def oN(sig:gv)(t:gv)(at':Int)(path:gv)(p:Int)(r:gv):Int->Option (Int⊕gX)
 |v19=>
  if(decide (v19<(r.length:Int)))=true then
   if 0<=v19/\v19<(r.length:Int)then
    (rG sig t (r.getD v19.toNat default) at').bind fun r_1=>
    if r_1=true then
     if(path.length+1)*8<=140737488355328 then
      Option.map Sum.inr (
       some (.inl ((path++[v19]),(r.getD v19.toNat default))))
     else none
    else
     some (.inl (IntKind.i64.wrap (v19+1)))
   else none
  else
   Option.map Sum.inr (
    some (.inl (path,p)))
def oM(sig:gv)(t:gv)(at':Int):gH->Option gX
 |(path,p)=>
  if(p != at')=true then
   (lq sig t p).bind fun r=>
   iw (oN sig t at' path p r) 0
  else
   Option.map Sum.inr (
    some path)
def rH(sig:gv)(t:gv)(at':Int):Option gv:=
 iw (oM sig t at') ([],0)
instance PZ{sig:gv}{t:gv}{at':Int}:iR (rH sig t at') fun rr=>jU Tryz.prog 111 [jd sig,(ia 1 iD) t,iD at'] ((ia 1 iD) rr):=⟨@fun rr h=>by
 delta rH at h;refine WL.jC (gZ ?_);delta Ti;refine iN ?_;refine um h [7,8,9,10,11,12,13,14,15,16,17,18,19,20,21,22,23,24,25,26,27,28,29,30,31,32,33,34] (fun pp=>[(7,.own 1 32 (List.map iD pp.1)),(8,.d (iD pp.2))]) (fun pp=>[(3,.obj 30 [.d (ia 1 iD sig)]),(32,.tok 2 1 pp.1.length)]) ?_ ?_
 ·try dsimp only
  refine(iL.Mj 7 32 2 1 rfl rfl).trans ?_;exact wk
 rintro⟨path,p⟩ t1 h hb1;unfold oM at h;try dsimp only at h
 refine gZ (iN ?_);refine iT h fun hc h=>?_
 refine rC h fun r hr h=>?_
 refine kT h [7,8,9,10,19,20,21,22,23,24,25,26,27,28,29,30,31,32,33,34] (fun pp=>[(7,.own 1 32 (List.map iD path)),(8,.d (iD p)),(19,.d (iD pp))]) (fun pp=>[(3,.obj 30 [.d (ia 1 iD sig)]),(32,.tok 2 1 path.length)]) ?_;rintro v19 t2 h hb2;unfold oN at h;try dsimp only at h
 refine gZ (iN ?_);refine iT h fun hc h=>?_
 refine j_ h fun hp h=>?_
 refine rC h fun r_1 hr_1 h=>?_
 refine iT h fun hc h=>?_
 refine j_ h fun hp h=>?_
 replace h:=iZ h hb2;cases h;refine⟨_,rfl,?_⟩;refine(iL.drop 31 gY).trans ?_;exact wk⟩
def Th:ie:=
 (.seq (.h_ (sq 3 [bo 3 30 0]++sq 6 [mi 0])) (.seq (.seq (.h_ (sq 11 [la 1 3,mv 1,cf 89 [11,12],nt 13])) (.cond (t0 14) (.seq (.h_ (sq 6 [mi (-1)])) .ret) .skip)) (.seq (.h_ (sq 7 [mi 0])) (.seq (.seq (.h_ (sq 15 [mv 2,ln 15,mi 0])) (.block 0 (.loop (.seq (.h_ (sq 18 [bn .lss 17 16])) (.seq (.cond (t0 18) .skip (.exit 0)) (.seq (.block 1 (.seq (.h_ (sq 19 [ix 1 15 17,ld 19]++sq 9 [mv 20])) (.seq (.h_ (sq 21 [la 1 3,mv 1,mv 7,cf 136 [21,22,23]]++sq 10 [mv 24])) (.seq (.seq (.h_ (sq 25 [mv 9,bi .lss 25 0,mv 26]++sg 27 false 28 [mv 9,mv 10,ln 29,bn .geq 28 30]++sq 32 [po 27 31])) (.cond (t0 32) (.seq (.h_ (sq 6 [mi (-1)])) .ret) .skip)) (.h_ (sq 33 [mv 10,mv 9,ix 1 33 34,ld 35]++sq 7 [mv 36])))))) (.h_ (sq 37 [bi .add 17 1]++sq 17 [mv 37])))))))) (.seq (.h_ (sq 38 [mv 7]++sq 6 [mv 38])) .ret)))))
theorem WK:kH Tryz.prog 110 Th 39 [.tmp 6]:=mf Tryz.func110 Tryz.ntmps110
def og(sig:gv)(t:gv)(path:gv):gO->Option (gO⊕Int)
 |(at',v17)=>
  if(decide (v17<(path.length:Int)))=true then
   if 0<=v17/\v17<(path.length:Int)then
    (lq sig t at').bind fun r_1=>
    if(decide ((path.getD v17.toNat default)<0))=true then
     Option.map Sum.inr (
      some (-1))
    else
     if(decide ((r_1.length:Int)<=(path.getD v17.toNat default)))=true then
      Option.map Sum.inr (
       some (-1))
     else
      if 0<=(path.getD v17.toNat default)/\(path.getD v17.toNat default)<(r_1.length:Int)then
       some (.inl ((r_1.getD (path.getD v17.toNat default).toNat default),(IntKind.i64.wrap (v17+1))))
      else none
   else none
  else
   Option.map Sum.inr (
    some at')
def oK(sig:gv)(t:gv)(path:gv):Option Int:=
 (mY sig t).bind fun r=>
 if r=true then
  iw (og sig t path) (0,0)
 else
  some (-1)
instance Np{sig:gv}{t:gv}{path:gv}:iR (oK sig t path) fun rr=>jU Tryz.prog 110 [jd sig,(ia 1 iD) t,(ia 1 iD) path] (iD rr):=⟨@fun rr h=>by
 delta oK at h;refine WK.jC (gZ ?_);delta Th;refine iN ?_;refine rC h fun r hr h=>?_
 refine iT h fun hc h=>?_
 refine kT h [6,7,9,10,17,18,19,20,21,22,23,24,25,26,27,28,29,30,31,32,33,34,35,36,37] (fun pp=>[(7,.d (iD pp.1)),(17,.d (iD pp.2))]) (fun pp=>[(3,.obj 30 [.d (ia 1 iD sig)])]) ?_;rintro⟨at',v17⟩ t1 h hb1;unfold og at h;try dsimp only at h
 refine gZ (iN ?_);exact mA⟩
def Yx:ie:=
 (.seq (.h_ (sq 2 [bo 2 33 0,bo 3 54 1,mb false])) (.seq (.seq (.h_ (sq 10 [la 2 2,fa 5 3,ld 11,cf 107 [10,12],nt 13,mv 14]++sg 15 false 16 [la 2 2,fa 4 3,ld 17,cf 107 [16,18],nt 19]++sq 21 [po 15 20,mv 21]++sg 22 false 23 [fa 3 3,ld 23,bi .eql 24 0,mv 25]++sg 26 true 27 [fa 5 3,ld 27,fa 4 3,ld 29,bn .eql 28 30]++sg 22 false 32 [pa 26 31]++sq 33 [po 22 32])) (.cond (t0 33) (.seq (.h_ (sq 4 [mb false])) .ret) .skip)) (.seq (.h_ (sq 34 [fa 1 2,ld 34,fa 5 3,ld 36,ix 2 35 37,fa 0 38,ld 39]++sq 5 [mv 40])) (.seq (.seq (.h_ (sq 41 [fa 3 3,ld 41,bi .lss 42 0,mv 43]++sg 44 false 45 [fa 3 3,ld 45,mv 5,ln 47,bn .geq 46 48]++sq 50 [po 44 49,mv 50]++sg 51 false 52 [mv 5,fa 3 3,ld 53,ix 1 52 54,ld 55,bi .lss 56 0]++sq 58 [po 51 57])) (.cond (t0 58) (.seq (.h_ (sq 4 [mb false])) .ret) .skip)) (.seq (.h_ (sq 60 [la 2 2,fa 0 3,ld 61,fa 5 3,ld 63,.kA 108 [(t0 60),(t0 62),(i0 0),(t0 64)]]++sq 59 [mv 65]++sq 66 [ex 59 0,ex 59 1]++sq 6 [mv 66,mv 67])) (.seq (.seq (.h_ (sq 68 [mv 7,nt 68,mv 69]++sg 70 false 71 [mv 6,fa 2 3,ld 72,cf 109 [71,73],nt 74]++sq 76 [po 70 75])) (.cond (t0 76) (.seq (.h_ (sq 4 [mb false])) .ret) .skip)) (.seq (.draw (sq 77 [fa 0 2,la 1 77,fa 0 3,ld 79,fa 0 2,la 1 81,mv 5,fa 3 3,ld 84,cf 111 [82,83,85],cf 110 [78,80,86]]++sq 8 [mv 87]) [[],[0],[],[2],[],[4],[],[],[7],[5,6,8],[1,3,9,9],[10,10,0,1,2,3,4,5,6,7,8,9,10]]) (.seq (.h_ (sq 89 [la 2 2,fa 0 3,ld 90,mv 8,fa 4 3,ld 93,cf 108 [89,91,92,94]]++sq 88 [mv 95]++sq 96 [ex 88 0,ex 88 1]++sq 9 [mv 96]++sq 7 [mv 97])) (.seq (.h_ (sq 98 [mv 7,mv 98]++sg 99 true 100 [mv 9,fa 1 3,ld 101,cf 109 [100,102]]++sq 104 [pa 99 103]++sq 4 [mv 104])) .ret)))))))))
theorem aai:kH Tryz.prog 80 Yx 105 [.tmp 4]:=mf Tryz.func80 Tryz.ntmps80
def uf(sys:gJ)(p:gw):Option Bool:=
 (pW sys p.2.2.2.2.2).bind fun r=>
 if r=true then
  (pW sys p.2.2.2.2.1).bind fun r_1=>
  if r_1=true then
   if(p.2.2.2.1==0)=true then
    if(p.2.2.2.2.2==p.2.2.2.2.1)=true then
     some false
    else
     if 0<=p.2.2.2.2.2/\p.2.2.2.2.2<(sys.2.length:Int)then
      if(decide (p.2.2.2.1<0))=true then
       some false
      else
       if(decide ((((sys.2.getD p.2.2.2.2.2.toNat default).1).length:Int)<=p.2.2.2.1))=true then
        some false
       else
        if 0<=p.2.2.2.1/\p.2.2.2.1<(((sys.2.getD p.2.2.2.2.2.toNat default).1).length:Int)then
         if(decide ((((sys.2.getD p.2.2.2.2.2.toNat default).1).getD p.2.2.2.1.toNat default)<0))=true then
          some false
         else
          (mX sys p.1 0 p.2.2.2.2.2).bind fun r_2=>
          if r_2.2=true then
           (iQ r_2.1 p.2.2.1).bind fun r_3=>
           if r_3=true then
            (rH sys.1 ((sys.2.getD p.2.2.2.2.2.toNat default).1) p.2.2.2.1).bind fun r_4=>
            (oK sys.1 p.1 r_4).bind fun r_5=>
            (mX sys p.1 r_5 p.2.2.2.2.1).bind fun r_6=>
            if r_6.2=true then
             (iQ r_6.1 p.2.1).bind fun r_7=>
             some r_7
            else
             some false
           else
            some false
          else
           some false
        else none
     else none
   else
    if 0<=p.2.2.2.2.2/\p.2.2.2.2.2<(sys.2.length:Int)then
     if(decide (p.2.2.2.1<0))=true then
      some false
     else
      if(decide ((((sys.2.getD p.2.2.2.2.2.toNat default).1).length:Int)<=p.2.2.2.1))=true then
       some false
      else
       if 0<=p.2.2.2.1/\p.2.2.2.1<(((sys.2.getD p.2.2.2.2.2.toNat default).1).length:Int)then
        if(decide ((((sys.2.getD p.2.2.2.2.2.toNat default).1).getD p.2.2.2.1.toNat default)<0))=true then
         some false
        else
         (mX sys p.1 0 p.2.2.2.2.2).bind fun r_8=>
         if r_8.2=true then
          (iQ r_8.1 p.2.2.1).bind fun r_9=>
          if r_9=true then
           (rH sys.1 ((sys.2.getD p.2.2.2.2.2.toNat default).1) p.2.2.2.1).bind fun r_10=>
           (oK sys.1 p.1 r_10).bind fun r_11=>
           (mX sys p.1 r_11 p.2.2.2.2.1).bind fun r_12=>
           if r_12.2=true then
            (iQ r_12.1 p.2.1).bind fun r_13=>
            some r_13
           else
            some false
          else
           some false
         else
          some false
       else none
    else none
  else
   some false
 else
  some false
instance P1{sys:gJ}{p:gw}:iR (uf sys p) fun rr=>jU Tryz.prog 80 [iA sys,jv p] (bD rr):=⟨@fun rr h=>by
 delta uf at h;refine aai.jC (gZ ?_);delta Yx;refine iN ?_;exact mA⟩
def Yf:ie:=
 (.seq (.h_ (sq 2 [bo 2 33 0,bo 3 54 1,mb false])) (.seq (.h_ (sq 5 [la 2 2,cf 32 [5],mv 6]++sg 7 true 8 [la 2 2,la 6 3,cf 80 [8,9]]++sq 11 [pa 7 10]++sq 4 [mv 11])) .ret))
theorem Z0:kH Tryz.prog 47 Yf 12 [.tmp 4]:=mf Tryz.func47 Tryz.ntmps47
def rE(sys:gJ)(p:gw):Option Bool:=
 (lK sys).bind fun r=>
 if r=true then
  (uf sys p).bind fun r_1=>
  some r_1
 else
  some false
instance PS{sys:gJ}{p:gw}:iR (rE sys p) fun rr=>jU Tryz.prog 47 [iA sys,jv p] (bD rr):=⟨@fun rr h=>by
 delta rE at h;refine Z0.jC (gZ ?_);delta Yf;refine iN ?_;exact mA⟩
def X1:ie:=
 (.seq (.h_ (sq 3 [bo 3 33 0,bo 4 54 1]++sq 6 [.alloc 6 50 [.sl 0 (some true) [],.sl 0 (some true) []],.alloc 7 50 [.sl 0 (some true) [],.sl 0 (some true) []],mb false])) (.seq (.seq (.h_ (sq 9 [la 2 3,la 6 4,cf 47 [9,10],nt 11,mv 12]++sg 13 false 14 [mv 2,cf 33 [14],nt 15]++sq 17 [po 13 16])) (.cond (t0 17) (.seq (.h_ (sq 18 [.build [.sl 0 (some true) [],.sl 0 (some true) []] [],.build [.sl 0 (some true) [],.sl 0 (some true) []] []]++s0 (sr 2 6 18)++s0 (sr 2 7 19)++sq 8 [mb false])) .ret) .skip)) (.seq (.h_ (sq 20 [la 2 3,fa 1 4,ld 21,fa 2 4,ld 23,mv 2,cf 48 [20,22,24,25],ex 26 0,ex 26 1,ex 26 2]++s0 (sr 2 6 27)++s0 (sr 2 7 28)++sq 8 [mv 29])) .ret)))
theorem ZM:kH Tryz.prog 17 X1 30 [.cell 6 2 true,.cell 7 2 true,.tmp 8]:=mf Tryz.func17 Tryz.ntmps17
def mJ(sys:gJ)(p:gw)(steps:Int):Option (gM×gM×Bool):=
 (rE sys p).bind fun r=>
 if r=true then
  (oB steps).bind fun r_1=>
  if r_1=true then
   (jY sys p.2.1 p.2.2.1 steps).bind fun r_2=>
   some r_2
  else
   some (([],[]),([],[]),false)
 else
  some (([],[]),([],[]),false)
instance JW{sys:gJ}{p:gw}{steps:Int}:iR (mJ sys p steps) fun rr=>oH Tryz.prog 17 [iA sys,jv p,iD steps] [kW rr.1,kW rr.2.1,bD rr.2.2]:=⟨@fun rr h=>by
 delta mJ at h;refine ZM.pg (gZ ?_);delta X1;refine iN ?_;exact mA⟩
def X6:ie:=
 (.seq (.h_ (sq 2 [bo 2 54 0,bo 3 54 1,mb false])) (.seq (.h_ (sq 5 [fa 3 2,ld 5,fa 3 3,ld 7,bn .eql 6 8,mv 9]++sg 10 true 11 [fa 4 2,ld 11,fa 4 3,ld 13,bn .eql 12 14]++sq 16 [pa 10 15,mv 16]++sg 17 true 18 [fa 5 2,ld 18,fa 5 3,ld 20,bn .eql 19 21]++sq 23 [pa 17 22,mv 23]++sg 24 true 25 [fa 0 2,ld 25,fa 0 3,ld 27,cf 51 [26,28]]++sq 30 [pa 24 29,mv 30]++sg 31 true 32 [fa 1 2,ld 32,fa 1 3,ld 34,cf 51 [33,35]]++sq 37 [pa 31 36,mv 37]++sg 38 true 39 [fa 2 2,ld 39,fa 2 3,ld 41,cf 51 [40,42]]++sq 44 [pa 38 43]++sq 4 [mv 44])) .ret))
theorem ZQ:kH Tryz.prog 21 X6 45 [.tmp 4]:=mf Tryz.func21 Tryz.ntmps21
def nZ(a:gw)(b:gw):Option Bool:=
 if(a.2.2.2.1==b.2.2.2.1)=true then
  if(a.2.2.2.2.1==b.2.2.2.2.1)=true then
   if(a.2.2.2.2.2==b.2.2.2.2.2)=true then
    (kG a.1 b.1).bind fun r=>
    if r=true then
     (kG a.2.1 b.2.1).bind fun r_1=>
     if r_1=true then
      (kG a.2.2.1 b.2.2.1).bind fun r_2=>
      some r_2
     else
      some false
    else
     some false
   else
    some false
  else
   some false
 else
  some false
instance MP{a:gw}{b:gw}:iR (nZ a b) fun rr=>jU Tryz.prog 21 [jv a,jv b] (bD rr):=⟨@fun rr h=>by
 delta nZ at h;refine ZQ.jC (gZ ?_);delta X6;refine iN ?_;exact mA⟩
def YC:ie:=
 (.seq (.h_ (sq 4 [mb false])) (.seq (.h_ (sq 5 [mv 1,mv 0,ln 6,bi .sub 7 1,.kA 61 [(t0 5),(i0 0),(t0 8)]]++sq 4 [mv 9])) .ret))
theorem aan:kH Tryz.prog 85 YC 10 [.tmp 4]:=mf Tryz.func85 Tryz.ntmps85
def sS(t:gv)(at':Int):Option Bool:=
 (kX at' 0 (IntKind.i64.wrap ((t.length:Int)-1))).bind fun r=>
 some r
instance NB{t:gv}{at':Int}:iR (sS t at') fun rr=>jU Tryz.prog 85 [(ia 1 iD) t,iD at'] (bD rr):=⟨@fun rr h=>by
 delta sS at h;refine aan.jC (gZ ?_);delta YC;refine iN ?_;exact mA⟩
def Yi:ie:=
 (.seq (.h_ (sq 4 [bo 4 33 0]++sq 8 [.mv (.const (.slice none 0 0)),mb false])) (.seq (.seq (.h_ (sq 10 [la 2 4,mv 1,cf 49 [10,11],nt 12,mv 13]++sg 14 false 15 [mv 1,mv 2,cf 85 [15,16],nt 17]++sq 19 [po 14 18,mv 19]++sg 20 false 21 [mv 3,fa 1 4,ld 22,ln 23,bi .sub 24 1,.kA 61 [(t0 21),(i0 0),(t0 25)],nt 26]++sq 28 [po 20 27])) (.cond (t0 28) (.seq (.h_ (sq 29 [.mP 29 2 1 []]++sq 8 [mv 29,mb false])) .ret) .skip)) (.seq (.h_ (sq 30 [la 2 4,mv 1,mv 2,mv 3,cf 86 [30,31,32,33],ex 34 0,ex 34 1]++sq 8 [mv 35,mv 36])) .ret)))
theorem Z3:kH Tryz.prog 50 Yi 37 [.tmp 8,.tmp 9]:=mf Tryz.func50 Tryz.ntmps50
def rK(sys:gJ)(t:gv)(at':Int)(rule:Int):Option gW:=
 (mG sys t).bind fun r=>
 if r=true then
  (sS t at').bind fun r_1=>
  if r_1=true then
   (kX rule 0 (IntKind.i64.wrap ((sys.2.length:Int)-1))).bind fun r_2=>
   if r_2=true then
    (pZ sys t at' rule).bind fun r_3=>
    some r_3
   else
    some ([],false)
  else
   some ([],false)
 else
  some ([],false)
instance P5{sys:gJ}{t:gv}{at':Int}{rule:Int}:iR (rK sys t at' rule) fun rr=>oH Tryz.prog 50 [iA sys,(ia 1 iD) t,iD at',iD rule] [(ia 1 iD) rr.1,bD rr.2]:=⟨@fun rr h=>by
 delta rK at h;refine Z3.pg (gZ ?_);delta Yi;refine iN ?_;exact mA⟩
def X2:ie:=
 (.seq (.h_ (sq 2 [bo 2 33 0,bo 3 50 1,mb false])) (.seq (.seq (.h_ (sq 9 [la 2 2,fa 0 3,ld 10,cf 49 [9,11],nt 12,mv 13]++sg 14 false 15 [fa 1 3,ld 15,ln 16,bi .gtr 17 60]++sq 19 [po 14 18])) (.cond (t0 19) (.seq (.h_ (sq 4 [mb false])) .ret) .skip)) (.seq (.h_ (sq 20 [fa 0 3,ld 20]++sq 5 [mv 21])) (.seq (.seq (.h_ (sq 6 [mi 0])) (.block 0 (.loop (.seq (.seq (.h_ (sq 22 [mv 6,fa 1 3,ld 23,ln 24,bn .lss 22 25])) (.cond (t0 26) .skip (.exit 0))) (.seq (.block 1 (.seq (.draw (sq 30 [la 2 2,mv 5,fa 1 3,ld 32,mv 6,ix 3 33 34,fa 0 35,ld 36,fa 1 3,ld 38,mv 6,ix 3 39 40,fa 1 41,ld 42,cf 50 [30,31,37,43]]++sq 29 [mv 44]++sq 45 [ex 29 0,ex 29 1]++sq 7 [mv 45,mv 46]) [[],[],[],[2],[],[3,4],[5],[6],[],[8],[],[9,10],[11],[12],[0,1,7,13],[14],[15],[15],[16,14,0,1,2,3,4,5,6,7,8,9,10,11,12,13,14,15,16],[17,18,0,1,2,3,4,5,6,7,8,9,10,11,12,13,14,15,16,17,18]]) (.seq (.seq (.h_ (sq 47 [mv 8,nt 47,mv 48]++sg 49 false 50 [mv 7,fa 1 3,ld 51,mv 6,ix 3 52 53,fa 2 54,ld 55,cf 51 [50,56],nt 57]++sq 59 [po 49 58])) (.cond (t0 59) (.seq (.h_ (sq 4 [mb false])) .ret) .skip)) (.h_ (sq 60 [mv 7]++sq 5 [mv 60]))))) (.h_ (sq 27 [mv 6,bi .add 27 1]++sq 6 [mv 28]))))))) (.seq (.h_ (sq 4 [mb true])) .ret)))))
theorem ZN:kH Tryz.prog 18 X2 61 [.tmp 4]:=mf Tryz.func18 Tryz.ntmps18
def qR(sys:gJ)(w:gM):gH->Option (gH⊕Bool)
 |(now,i)=>
  if(decide (i<(w.2.length:Int)))=true then
   if 0<=i/\i<(w.2.length:Int)then
    if 0<=i/\i<(w.2.length:Int)then
     (rK sys now ((w.2.getD i.toNat default).1) ((w.2.getD i.toNat default).2.1)).bind fun r_1=>
     if r_1.2=true then
      if 0<=i/\i<(w.2.length:Int)then
       (kG r_1.1 ((w.2.getD i.toNat default).2.2)).bind fun r_2=>
       if r_2=true then
        some (.inl (r_1.1,(IntKind.i64.wrap (i+1))))
       else
        Option.map Sum.inr (
         some false)
      else none
     else
      Option.map Sum.inr (
       some false)
    else none
   else none
  else
   Option.map Sum.inr (
    some true)
def oC(sys:gJ)(w:gM):Option Bool:=
 (mG sys w.1).bind fun r=>
 if r=true then
  if(decide (60<(w.2.length:Int)))=true then
   some false
  else
   iw (qR sys w) (w.1,0)
 else
  some false
instance P8{sys:gJ}{w:gM}:iR (oC sys w) fun rr=>jU Tryz.prog 18 [iA sys,kW w] (bD rr):=⟨@fun rr h=>by
 delta oC at h;refine ZN.jC (gZ ?_);delta X2;refine iN ?_;refine rC h fun r hr h=>?_
 refine iT h fun hc h=>?_
 refine iF h fun hc h=>?_
 refine kT h [4,5,6,7,8,22,23,24,25,26,27,28,29,30,31,32,33,34,35,36,37,38,39,40,41,42,43,44,45,46,47,48,49,50,51,52,53,54,55,56,57,58,59,60] (fun pp=>[(5,.d (ia 1 iD pp.1)),(6,.d (iD pp.2))]) (fun pp=>[(2,.obj 33 [.d (ia 1 iD sys.1),.d (ia 2 g_ sys.2)]),(3,.obj 50 [.d (ia 1 iD w.1),.d (ia 3 iW w.2)])]) ?_;rintro⟨now,i⟩ t1 h hb1;unfold qR at h;try dsimp only at h
 refine gZ (iN ?_);exact mA⟩
def Yk:ie:=
 (.seq (.h_ (sq 1 [bo 1 50 0,.mv (.const (.slice none 0 0))])) (.seq (.seq (.h_ (sq 3 [fa 1 1,ld 3,ln 4,bi .eql 5 0])) (.cond (t0 6) (.seq (.h_ (sq 7 [fa 0 1,ld 7,cf 87 [8]]++sq 2 [mv 9])) .ret) .skip)) (.seq (.h_ (sq 10 [fa 1 1,ld 10,fa 1 1,ld 12,ln 13,bi .sub 14 1,ix 3 11 15,fa 2 16,ld 17,cf 87 [18]]++sq 2 [mv 19])) .ret)))
theorem Z5:kH Tryz.prog 52 Yk 20 [.tmp 2]:=mf Tryz.func52 Tryz.ntmps52
def sZ(w:gM):Option gv:=
 if((w.2.length:Int)==0)=true then
  (jo w.1).bind fun r=>
  some r
 else
  if 0<=(IntKind.i64.wrap ((w.2.length:Int)-1))/\(IntKind.i64.wrap ((w.2.length:Int)-1))<(w.2.length:Int)then
   (jo ((w.2.getD (IntKind.i64.wrap ((w.2.length:Int)-1)).toNat default).2.2)).bind fun r_1=>
   some r_1
  else none
instance QV{w:gM}:iR (sZ w) fun rr=>jU Tryz.prog 52 [kW w] ((ia 1 iD) rr):=⟨@fun rr h=>by
 delta sZ at h;refine Z5.jC (gZ ?_);delta Yk;refine iN ?_;refine it h (fun hc h=>?_) fun hc h=>?_
 ·refine rB [] [(3,9)] h fun r hr h=>?_
  exact mA
 refine j_ h fun hp h=>?_
 refine rB [] [(3,19)] h fun r_1 hr_1 h=>?_
 exact mA⟩
def X4:ie:=
 (.seq (.h_ (sq 2 [bo 2 33 0,bo 3 50 1,.mv (.const (.slice none 0 0))])) (.seq (.seq (.h_ (sq 5 [la 2 2,la 2 3,cf 18 [5,6],nt 7])) (.cond (t0 8) (.seq (.h_ (sq 9 [.mP 9 2 1 []]++sq 4 [mv 9])) .ret) .skip)) (.seq (.h_ (sq 10 [la 2 3,cf 52 [10]]++sq 4 [mv 11])) .ret)))
theorem ZP:kH Tryz.prog 20 X4 12 [.tmp 4]:=mf Tryz.func20 Tryz.ntmps20
def oQ(sys:gJ)(w:gM):Option gv:=
 (oC sys w).bind fun r=>
 if r=true then
  (sZ w).bind fun r_1=>
  some r_1
 else
  some []
instance Nu{sys:gJ}{w:gM}:iR (oQ sys w) fun rr=>jU Tryz.prog 20 [iA sys,kW w] ((ia 1 iD) rr):=⟨@fun rr h=>by
 delta oQ at h;refine ZP.jC (gZ ?_);delta X4;refine iN ?_;exact mA⟩
def X3:ie:=
 (.seq (.h_ (sq 4 [mb false])) (.seq (.seq (.h_ (sq 6 [mv 0,ln 6,mv 1,ln 8,bn .neq 7 9])) (.cond (t0 10) (.seq (.h_ (sq 4 [mb false])) .ret) .skip)) (.seq (.seq (.h_ (sq 5 [mi 0])) (.block 0 (.loop (.seq (.seq (.h_ (sq 11 [mv 5,mv 0,ln 12,bn .lss 11 13])) (.cond (t0 14) .skip (.exit 0))) (.seq (.block 1 (.seq (.draw (sq 17 [mv 0,mv 5,ix 1 17 18,ld 19,mv 1,mv 5,ix 1 21 22,ld 23,bn .neq 20 24]) [[],[],[0,1],[2],[],[],[4,5],[6],[3,7]]) (.cond (t0 25) (.seq (.h_ (sq 4 [mb false])) .ret) .skip))) (.h_ (sq 15 [mv 5,bi .add 15 1]++sq 5 [mv 16]))))))) (.seq (.h_ (sq 4 [mb true])) .ret))))
theorem ZO:kH Tryz.prog 19 X3 26 [.tmp 4]:=mf Tryz.func19 Tryz.ntmps19
def pJ(a:gv)(b:gv):Int->Option gR
 |i=>
  if(decide (i<(a.length:Int)))=true then
   if 0<=i/\i<(a.length:Int)then
    if 0<=i/\i<(b.length:Int)then
     if((a.getD i.toNat default) != (b.getD i.toNat default))=true then
      Option.map Sum.inr (
       some false)
     else
      some (.inl (IntKind.i64.wrap (i+1)))
    else none
   else none
  else
   Option.map Sum.inr (
    some true)
def nY(a:gv)(b:gv):Option Bool:=
 if((a.length:Int) != (b.length:Int))=true then
  some false
 else
  iw (pJ a b) 0
instance MN{a:gv}{b:gv}:iR (nY a b) fun rr=>jU Tryz.prog 19 [(ia 1 iD) a,(ia 1 iD) b] (bD rr):=⟨@fun rr h=>by
 delta nY at h;refine ZO.jC (gZ ?_);delta X3;refine iN ?_;refine iF h fun hc h=>?_
 refine kT h [4,5,11,12,13,14,15,16,17,18,19,20,21,22,23,24,25] (fun pp=>[(5,.d (iD pp))]) (fun pp=>[]) ?_;rintro i t1 h hb1;unfold pJ at h;try dsimp only at h
 refine gZ (iN ?_);exact mA⟩
def XV:ie:=
 (.seq (.h_ (sq 2 [mb false])) (.seq (.h_ (sq 3 [mv 0,ln 3,bi .gtr 4 4096]++sq 2 [mv 5])) .ret))
theorem ZG:kH Tryz.prog 11 XV 6 [.tmp 2]:=mf Tryz.func11 Tryz.ntmps11
def xE(code:gv):Option Bool:=
 some (decide (4096<(code.length:Int)))
instance UH{code:gv}:iR (xE code) fun rr=>jU Tryz.prog 11 [(ia 1 (kD .u8)) code] (bD rr):=⟨@fun rr h=>by
 delta xE at h;refine ZG.jC (gZ ?_);delta XV;refine iN ?_;exact mA⟩
def XW:ie:=
 (.seq (.h_ (sq 4 [.mv (.const (.pointer none))])) (.seq (.h_ (sq 7 [mv 0,mv 1,.bin .mul (t0 8) (.const (.int .u64 7919)),mv 0,ln 10,.conv .u64 (t0 11),bn .add 9 12,.build [.sl 0 (some true) [],.lit (.int .i64 0),.lit (.int .u64 0)] [(0,1,(t0 7)),(2,1,(t0 13))],bo 15 77 14]++sq 5 [mv 15])) (.seq (.seq (.h_ (sq 6 [mi 0])) (.block 0 (.loop (.seq (.seq (.h_ (sq 16 [mv 6,mv 0,ln 17,bn .lss 16 18])) (.cond (t0 19) .skip (.exit 0))) (.seq (.block 1 (.draw (sq 22 [mv 5,mv 5,.me (t0 23),fa 2 24,ld 25,.bin .mul (t0 26) (.const (.int .u64 1099511628211)),mv 0,mv 6,ix 1 28 29,ld 30,.conv .u64 (t0 31),bn .add 27 32,.bin .add (t0 33) (.const (.int .u64 3)),.me (t0 22),fa 2 35]++s0 (sr 1 36 34)) [[],[],[1],[2],[3],[4],[],[],[6,7],[8],[9],[5,10],[11],[0,0,1,2,3,4,5,6,7,8,9,10,11,12],[13,0,1,2,3,4,5,6,7,8,9,10,11,12],[14,12,0,1,2,3,4,5,6,7,8,9,10,11,12]])) (.h_ (sq 20 [mv 6,bi .add 20 1]++sq 6 [mv 21]))))))) (.seq (.h_ (sq 37 [mv 5]++sq 4 [mv 37])) .ret))))
theorem ZH:kH Tryz.prog 12 XW 38 [.tmp 4]:=mf Tryz.func12 Tryz.ntmps12
def vu(code:gv):gO->Option (gO⊕gB)
 |(i,o15)=>
  if(decide (i<(code.length:Int)))=true then
   if 0<=i/\i<(code.length:Int)then
    some (.inl ((IntKind.i64.wrap (i+1)),(IntKind.u64.wrap ((IntKind.u64.wrap ((IntKind.u64.wrap (o15*1099511628211))+(IntKind.u64.wrap (code.getD i.toNat default))))+3))))
   else none
  else
   Option.map Sum.inr (
    some (code,0,o15))
def sA(code:gv)(seed:Int):Option gB:=
 iw (vu code) (0,(IntKind.u64.wrap ((IntKind.u64.wrap (seed*7919))+(IntKind.u64.wrap (code.length:Int)))))
instance SU{code:gv}{seed:Int}:iR (sA code seed) fun rr=>iC Tryz.prog 12 [.d (ia 1 (kD .u8) code),.d (.lit (.int .u64 seed))] [] 0 fun xx ss=>xx=.ptr 15 0/\ss=[(15,.obj 77 [.d (ia 1 (kD .u8) rr.1),.d (iD rr.2.1),.d (.lit (.int .u64 rr.2.2))])]:=⟨@fun rr h=>by
 delta sA at h;refine ZH.lO (gZ ?_);delta XW;refine iN ?_;refine kT h [6,16,17,18,19,20,21,22,23,24,25,26,27,28,29,30,31,32,33,34,35,36] (fun pp=>[(6,.d (iD pp.1))]) (fun pp=>[(15,.obj 77 [.d (ia 1 (kD .u8) code),.d (iD 0),.d (.lit (.int .u64 pp.2))])]) ?_;rintro⟨i,o15⟩ t1 h hb1;unfold vu at h;try dsimp only at h
 refine gZ (iN ?_);exact mA⟩
end Go.Proofs.YtjgbnaihpicpgaaGreatDoor
