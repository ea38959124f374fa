/- A part of the proof about FnJoinedPeaks (J1, IS, JP, JC, JD, JP2, AT, JQ). -/
import Derived.Test.YtjgbnaihpicpgaaGreatDoorPa
import Derived.Test.YtjgbnaihpicpgaaGreatDoorPc
import Derived.Test.YtjgbnaihpicpgaaGreatDoorPf
import Derived.Test.YtjgbnaihpicpgaaGreatDoorProg
import Derived.WalkKit
import Derived.LaidEql
import Derived.Stop.Asserts
import Derived.RowKitTokens
import Derived.KernelRfl
import Derived.Tactics
import Derived.Tactics2
import Derived.RegionTactic
import Derived.ChangeAlike
import Derived.Deep.RegionHeld3
set_option linter.all false
noncomputable section
namespace Go.Proofs.YtjgbnaihpicpgaaGreatDoor
open Go mm
attribute [local irreducible] rj vP uV mz lN nj kj Au Bm zm Bl yp tF lM nc AJ iS kN
set_option maxHeartbeats 4000000
set_option maxRecDepth 4000
def kW(x:gM):D:=.agg [(ia 1 iD) x.1,(ia 3 iW) x.2]
def mC(x:gA):D:=.agg [(ia 1 iD) x.1,iD x.2.1,iD x.2.2.1,iD x.2.2.2.1,(ia 1 iD) x.2.2.2.2.1,iD x.2.2.2.2.2]
instance:wC kW 2:=⟨fun _=>rfl⟩
instance:wC mC 6:=⟨fun _=>rfl⟩
attribute [go_sem] kW mC
def Tn:ie:=
 (.seq (.h_ (sq 2 [bo 2 133 0,mb false])) (.seq (.h_ (sq 4 [fa 0 2,ld 4,ld 1,cf 109 [5,6]]++sq 3 [mv 7])) .ret))
theorem WQ:kH Tryz.prog 115 Tn 8 [.tmp 3]:=mf Tryz.func115 Tryz.ntmps115
def sM(r:gA)(o0:gv):Option Bool:=
 (iQ r.1 o0).bind fun r_1=>
 some r_1
instance Nr{r:gA}{o0:gv}:iR (sM r o0) fun rr=>iC Tryz.prog 115 [.d (.agg [ia 1 iD r.1,iD r.2.1,iD r.2.2.1,iD r.2.2.2.1,ia 1 iD r.2.2.2.2.1,iD r.2.2.2.2.2]),.ptr 0 0] [(0,.obj 22 [.d (ia 1 iD o0)])] 1 fun xx ss=>xx=.d (bD rr)/\ss=[(0,.obj 22 [.d (ia 1 iD o0)])]:=⟨@fun rr h=>by
 delta sM at h;refine WQ.lO (gZ ?_);delta Tn;refine iN ?_;refine rC h fun r_1 hr_1 h=>?_
 cases h;exact⟨[2],by simp,mT,mT⟩⟩
def Tl:ie:=
 (.seq (.h_ (sq 4 [mi 0])) (.seq (.seq (.h_ (sq 6 [mv 0,ln 6,mi 0])) (.block 0 (.loop (.seq (.h_ (sq 9 [bn .lss 8 7])) (.seq (.cond (t0 9) .skip (.exit 0)) (.seq (.block 1 (.seq (.h_ (sq 10 [mv 8]++sq 5 [mv 10])) (.seq (.h_ (sq 11 [mv 1,mv 0,mv 5,ix 6 12 13,la 6 14,.ng (t0 11) [(t0 15)]])) (.cond (t0 16) (.seq (.h_ (sq 17 [mv 5]++sq 4 [mv 17])) .ret) .skip)))) (.h_ (sq 18 [bi .add 8 1]++sq 8 [mv 18])))))))) (.seq (.h_ (sq 4 [mi (-1)])) .ret)))
theorem WO:kH Tryz.prog 114 Tl 19 [.tmp 4]:=mf Tryz.func114 Tryz.ntmps114
def jk(s:gS)(o0:gv):Int->Option (Int⊕Int)
 |v8=>
  if(decide (v8<(s.length:Int)))=true then
   if 0<=v8/\v8<(s.length:Int)then
    (sM ((s.getD v8.toNat default).1,(s.getD v8.toNat default).2.1,(s.getD v8.toNat default).2.2.1,(s.getD v8.toNat default).2.2.2.1,(s.getD v8.toNat default).2.2.2.2.1,(s.getD v8.toNat default).2.2.2.2.2) o0).bind fun r=>
    if r=true then
     Option.map Sum.inr (
      some v8)
    else
     some (.inl (IntKind.i64.wrap (v8+1)))
   else none
  else
   Option.map Sum.inr (
    some (-1))
def iX(s:gS)(o0:gv):Option Int:=
 iw (jk s o0) 0
instance wZ{s:gS}{o0:gv}:iR (iX s o0) fun rr=>iC Tryz.prog 114 [.d (ia 6 mC s),.fn 115 [] [.ptr 0 0]] [(0,.obj 22 [.d (ia 1 iD o0)])] 1 fun xx ss=>xx=.d (iD rr)/\ss=[(0,.obj 22 [.d (ia 1 iD o0)])]:=⟨@fun rr h=>by
 delta iX at h;refine WO.lO (gZ ?_);delta Tl;refine iN ?_;refine kT h [4,5,8,9,10,11,12,13,14,15,16,17,18] (fun pp=>[(8,.d (iD pp))]) (fun pp=>[(0,.obj 22 [.d (ia 1 iD o0)])]) ?_;rintro v8 t1 h hb1;unfold jk at h;try dsimp only at h
 refine gZ (iN ?_);refine iT h fun hc h=>?_
 refine j_ h fun hp h=>?_
 refine yW (by kernel_rfl) ?_;refine rB [(0,0)] [] h fun r hr h=>?_
 exact mA⟩
def Yz:ie:=
 (.seq (.h_ (sq 3 [bo 3 22 1,mi 0])) (.seq (.h_ (sq 5 [mv 0,.A2 115 [] [(t0 3)],cf 114 [5,6]]++sq 4 [mv 7])) .ret))
theorem aak:kH Tryz.prog 82 Yz 8 [.tmp 4]:=mf Tryz.func82 Tryz.ntmps82
def qJ(all:gS)(t:gv):Option Int:=
 (iX all t).bind fun r=>
 some r
instance QE{all:gS}{t:gv}:iR (qJ all t) fun rr=>jU Tryz.prog 82 [(ia 6 mC) all,(ia 1 iD) t] (iD rr):=⟨@fun rr h=>by
 delta qJ at h;refine aak.jC (gZ ?_);delta Yz;refine iN ?_;refine rB [(0,3)] [] h fun r hr h=>?_
 exact mA⟩
def Yy:ie:=
 (.seq (.h_ (sq 3 [bo 3 33 0]++sq 6 [.mv (.const (.slice none 0 0)),mb false])) (.seq (.h_ (sq 14 [mv 1,cf 112 [14],.build [.sl 0 (some true) [],.lit (.int .i64 0),.lit (.int .i64 0),.lit (.int .i64 0),.sl 0 (some true) [],.lit (.int .i64 0)] [(0,1,(t0 15)),(1,1,(i0 (-1)))],.mP 17 133 6 [(t0 16)]]++sq 8 [mv 17])) (.seq (.seq (.h_ (sq 9 [mi 0])) (.block 0 (.loop (.seq (.seq (.h_ (sq 18 [mv 9,mv 8,ln 19,bn .lss 18 20])) (.cond (t0 21) .skip (.exit 0))) (.seq (.block 1 (.seq (.seq (.h_ (sq 24 [mv 8,mv 9,ix 6 24 25,fa 5 26,ld 27,mv 2,bn .eql 28 29])) (.cond (t0 30) (.exit 1) .skip)) (.seq (.draw (sq 32 [la 2 3,mv 8,mv 9,ix 6 33 34,fa 0 35,ld 36,cf 113 [32,37]]++sq 31 [mv 38]++sq 39 [ex 31 0,ex 31 1]++sq 10 [mv 39,mv 40]) [[],[],[],[1,2],[3],[4],[0,5],[6],[7],[7],[8,6,0,1,2,3,4,5,6,7,8],[9,10,0,1,2,3,4,5,6,7,8,9,10]]) (.seq (.h_ (sq 41 [mv 10,ln 41,mi 0])) (.block 2 (.loop (.seq (.h_ (sq 44 [bn .lss 43 42])) (.seq (.cond (t0 44) .skip (.exit 2)) (.seq (.block 3 (.seq (.h_ (sq 45 [ix 3 41 43,la 3 45]++sq 13 [.alloc 13 95 [.lit (.int .i64 0),.lit (.int .i64 0),.sl 0 (some true) []]]++s0 (sr 3 13 46))) (.seq (.seq (.h_ (sq 47 [mv 8,fa 2 13,ld 48,cf 82 [47,49],bi .geq 50 0])) (.cond (t0 51) (.exit 3) .skip)) (.seq (.seq (.h_ (sq 52 [mv 8,ln 52,bi .eql 53 60])) (.cond (t0 54) (.seq (.h_ (sq 55 [mv 8]++sq 6 [mv 55,mb false])) .ret) .skip)) (.draw (sq 56 [mv 8,fa 2 13,ld 57,mv 9,la 3 13,mv 8,mv 9,ix 6 61 62,fa 5 63,ld 64,bi .add 65 1,.build [.sl 0 (some true) [],.lit (.int .i64 0),.lit (.int .i64 0),.lit (.int .i64 0),.sl 0 (some true) [],.lit (.int .i64 0)] [(0,1,(t0 58)),(1,1,(t0 59)),(2,3,(t0 60)),(5,1,(t0 66))],.mP 68 133 6 [(t0 67)],ap 69 133 6 80 56 68]++sq 8 [mv 69]) [[],[],[1],[],[],[],[],[5,6],[7],[8],[9],[2,3,4,10],[11],[0,12],[13,13,0,1,2,3,4,5,6,7,8,9,10,11,12,13]]))))) (.h_ (sq 70 [bi .add 43 1]++sq 43 [mv 70]))))))))))) (.h_ (sq 22 [mv 9,bi .add 22 1]++sq 9 [mv 23]))))))) (.seq (.h_ (sq 71 [mv 8]++sq 6 [mv 71,mb true])) .ret))))
theorem aaj:kH Tryz.prog 81 Yy 72 [.tmp 6,.tmp 7]:=mf Tryz.func81 Tryz.ntmps81
def nV(k:Int)(r_1:(gD×Bool)):(gS×Int)->Option ((gS×Int)⊕((gS×Int)⊕(gS×Bool)))
 |(all_1,v43)=>
  if(decide (v43<(r_1.1.length:Int)))=true then
   if 0<=v43/\v43<(r_1.1.length:Int)then
    (qJ all_1 ((r_1.1.getD v43.toNat default).2.2)).bind fun r_2=>
    if(decide (0<=r_2))=true then
     some (.inl (all_1,(IntKind.i64.wrap (v43+1))))
    else
     if((all_1.length:Int)==60)=true then
      Option.map Sum.inr (
       Option.map Sum.inr (
        some (all_1,false)))
     else
      if 0<=k/\k<(all_1.length:Int)then
       if(all_1.length+1)*80<=140737488355328 then
        some (.inl ((all_1++[((r_1.1.getD v43.toNat default).2.2,k,(r_1.1.getD v43.toNat default).1,(r_1.1.getD v43.toNat default).2.1,(r_1.1.getD v43.toNat default).2.2,(IntKind.i64.wrap ((all_1.getD k.toNat default).2.2.2.2.2+1)))]),(IntKind.i64.wrap (v43+1))))
       else none
      else none
   else none
  else
   Option.map Sum.inr (
    some (.inl (all_1,(IntKind.i64.wrap (k+1)))))
def mM(sys:gJ)(steps:Int):(gS×Int)->Option ((gS×Int)⊕(gS×Bool))
 |(all,k)=>
  if(decide (k<(all.length:Int)))=true then
   if 0<=k/\k<(all.length:Int)then
    if((all.getD k.toNat default).2.2.2.2.2==steps)=true then
     some (.inl (all,(IntKind.i64.wrap (k+1))))
    else
     if 0<=k/\k<(all.length:Int)then
      (oO sys ((all.getD k.toNat default).1)).bind fun r_1=>
      iw (nV k r_1) (all,0)
     else none
   else none
  else
   Option.map Sum.inr (
    some (all,true))
def qM(sys:gJ)(t:gv)(steps:Int):Option (gS×Bool):=
 (jq t).bind fun r=>
 iw (mM sys steps) ([(r,(-1),0,0,[],0)],0)
instance QJ{sys:gJ}{t:gv}{steps:Int}:iR (qM sys t steps) fun rr=>oH Tryz.prog 81 [iA sys,(ia 1 iD) t,iD steps] [(ia 6 mC) rr.1,bD rr.2]:=⟨@fun rr h=>by
 delta qM at h;refine aaj.pg (gZ ?_);delta Yy;refine iN ?_;refine rC h fun r hr h=>?_
 refine kT h [6,7,8,9,10,11,13,18,19,20,21,22,23,24,25,26,27,28,29,30,31,32,33,34,35,36,37,38,39,40,41,42,43,44,45,46,47,48,49,50,51,52,53,54,55,56,57,58,59,60,61,62,63,64,65,66,67,68,69,70] (fun pp=>[(8,.own 6 17 (List.map mC pp.1)),(9,.d (iD pp.2))]) (fun pp=>[(3,.obj 33 [.d (ia 1 iD sys.1),.d (ia 2 g_ sys.2)]),(17,.tok 133 6 pp.1.length)]) ?_;rintro⟨all,k⟩ t1 h hb1;unfold mM at h;try dsimp only at h
 refine gZ (iN ?_);refine iT h fun hc h=>?_
 refine j_ h fun hp h=>?_
 refine iF h fun hc h=>?_
 refine j_ h fun hp h=>?_
 refine ZC h fun r_1 hr_1 h=>?_
 refine jV (by kernel_rfl) (iN ?_);refine kT h [6,7,8,13,43,44,45,46,47,48,49,50,51,52,53,54,55,56,57,58,59,60,61,62,63,64,65,66,67,68,69,70] (fun pp=>[(8,.own 6 17 (List.map mC pp.1)),(43,.d (iD pp.2))]) (fun pp=>[(3,.obj 33 [.d (ia 1 iD sys.1),.d (ia 2 g_ sys.2)]),(17,.tok 133 6 pp.1.length)]) ?_;rintro⟨all_1,v43⟩ t2 h hb2;unfold nV at h;try dsimp only at h
 refine gZ (iN ?_);refine iT h fun hc h=>?_
 refine j_ h fun hp h=>?_
 refine rC h fun r_2 hr_2 h=>?_
 refine it h (fun hc h=>?_) fun hc h=>?_
 ·cases h;refine⟨_,rfl,?_⟩;refine(iL.drop 13 gY).trans ?_;exact wk
 refine iF h fun hc h=>?_
 refine j_ h fun hp h=>?_
 refine j_ h fun hp h=>?_
 refine jV (by kernel_rfl) (iN ?_);cases h;refine⟨_,rfl,?_⟩;refine(iL.drop 13 gY).trans ?_;refine(iL.drop 68 gY).trans ?_;exact wk⟩
def jH(_:gD):Option Unit:=some ()
theorem WR:kH Tryz.prog 116 (Nd 139 48) 4 [.tmp 2]:=
 ⟨Tryz.f116,Tryz.func116,by kernel_rfl,Tryz.ntmps116,by kernel_rfl⟩
theorem Xg:kH Tryz.prog 139 (UA 3) 19 []:=
 ⟨Tryz.f139,Tryz.func139,by kernel_rfl,Tryz.ntmps139,by kernel_rfl⟩
theorem Wq(xs:gD):Iter Tryz.prog 139 [.pv [ia 3 iW xs]] (yD iW xs):=LM iW (fun _=>⟨_,rfl,rfl⟩) Xg (by kernel_rfl) xs
instance zu{s:gD}:iR (jH s) fun _=>iC Tryz.prog 116 [.d (ia 3 iW s)] [] 0 fun xx ss=>xx=.fn 139 [] [.pv [ia 3 iW s]]/\ss=[]:=⟨fun _=>Ie iW s WR⟩
def To:ie:=
 (.seq (.h_ (sq 3 [bo 3 95 1])) (.draw (sq 4 [mv 0,mv 0,.me (t0 5),fa 1 6,ld 7,fa 0 3,ld 9,fa 1 3,ld 11,fa 2 3,ld 13,cf 112 [14],.build [.lit (.int .i64 0),.lit (.int .i64 0),.sl 0 (some true) []] [(0,1,(t0 10)),(1,1,(t0 12)),(2,1,(t0 15))],.mP 17 95 3 [(t0 16)],ap 18 95 3 40 8 17,.me (t0 4),fa 1 19]++s0 (sr 1 20 18)) [[],[],[1],[2],[3],[],[5],[],[7],[],[9],[10],[6,8,11],[12],[4,13,11],[0,0,1,2,3,4,5,6,7,8,9,10,11,12,13,14],[15,0,1,2,3,4,5,6,7,8,9,10,11,12,13,14],[16,14,14,0,1,2,3,4,5,6,7,8,9,10,11,12,13,14]]))
theorem WS:kH Tryz.prog 117 To 21 []:=mf Tryz.func117 Tryz.ntmps117
def nU(s:gy)(w0:gv)(w1:gD):Option gD:=
 (jq s.2.2).bind fun r=>
 if(w1.length+1)*40<=140737488355328 then
  some (w1++[(s.1,s.2.1,r)])
 else none
instance MF{s:gy}{w0:gv}{w1:gD}:iR (nU s w0 w1) fun rr=>iC Tryz.prog 117 [.ptr 0 0,.d (.agg [iD s.1,iD s.2.1,ia 1 iD s.2.2])] [(0,.obj 50 [.d (ia 1 iD w0),.own 3 1 (List.map iW w1)]),(1,.tok 95 3 w1.length)] 2 fun xx ss=>xx=.mj []/\ss=[(0,.obj 50 [.d (ia 1 iD w0),.own 3 1 (List.map iW rr)]),(1,.tok 95 3 rr.length)]:=⟨@fun rr h=>by
 delta nU at h;refine WS.lO (gZ ?_);delta To;refine iN ?_;refine dC h fun r hr h=>?_
 refine j_ h fun hp h=>?_
 refine jV (by kernel_rfl) (iN ?_);cases h;exact⟨[3,17],by simp,mT,mT⟩⟩
def YA:ie:=
 (.seq (.h_ (sq 4 [.alloc 4 50 [.sl 0 (some true) [],.sl 0 (some true) []]])) (.seq (.h_ (sq 9 [mv 0,.uE 6 (t0 9) (i0 0),fa 0 10,ld 11,cf 112 [12],.build [.sl 0 (some true) [],.sl 0 (some true) []] [(0,1,(t0 13))]]++sq 5 [.alloc 5 50 [.sl 0 (some true) [],.sl 0 (some true) []]]++s0 (sr 2 5 14))) (.seq (.h_ (sq 6 [.mv (.const (.slice none 0 0))])) (.seq (.block 0 (.loop (.seq (.seq (.h_ (sq 15 [mv 1,bi .gtr 15 0])) (.cond (t0 16) .skip (.exit 0))) (.seq (.block 1 (.h_ (sq 22 [mv 6,mv 0,mv 1,ix 6 23 24,fa 2 25,la 3 26,.mP 28 95 3 [(t0 27)],ap 29 95 3 40 22 28]++sq 6 [mv 29]))) (.h_ (sq 17 [mv 0,mv 1,ix 6 17 18,fa 1 19,ld 20]++sq 1 [mv 21])))))) (.seq (.seq (.h_ (sq 30 [mv 6,cf 116 [30]])) (.block 2 (.Es (t0 31) [32,33] (.h_ (sq 8 [.alloc 8 95 [.lit (.int .i64 0),.lit (.int .i64 0),.sl 0 (some true) []]]++s0 (sr 3 8 33))) (.block 3 (.h_ (sq 34 [la 3 8,cf 117 [5,34]])))))) (.seq (.h_ (sq 36 [la 2 5]++s0 (sr 2 4 36))) .ret))))))
theorem aal:kH Tryz.prog 83 YA 37 [.cell 4 2 true]:=mf Tryz.func83 Tryz.ntmps83
def lU(r:gv)(steps:gD):(Nat×gD)->Option ((Nat×gD)⊕gM)
 |(jj,w)=>
  if jj<steps.length then
   (nU ((steps.getD (steps.length-1-jj) default).1,(steps.getD (steps.length-1-jj) default).2.1,(steps.getD (steps.length-1-jj) default).2.2) r w).bind fun r_2=>
   some (.inl (jj+1,r_2))
  else
   Option.map Sum.inr (
    some (r,w))
def lT(all:gS)(r:gv):(Int×gD)->Option ((Int×gD)⊕gM)
 |(k_1,steps)=>
  if(decide (0<k_1))=true then
   if 0<=k_1/\k_1<(all.length:Int)then
    if(steps.length+1)*40<=140737488355328 then
     if 0<=k_1/\k_1<(all.length:Int)then
      some (.inl ((all.getD k_1.toNat default).2.1,(steps++[((all.getD k_1.toNat default).2.2.1,(all.getD k_1.toNat default).2.2.2.1,(all.getD k_1.toNat default).2.2.2.2.1)])))
     else none
    else none
   else none
  else
   Option.map Sum.inr (
    (jH steps).bind fun r_1=>
    iw (lU r steps) (0,[]))
def nX(all:gS)(k:Int):Option gM:=
 if 0<=0/\0<(all.length:Int)then
  (jq ((all.getD 0 default).1)).bind fun r=>
  iw (lT all r) (k,[])
 else none
instance MM{all:gS}{k:Int}:iR (nX all k) fun rr=>jU Tryz.prog 83 [(ia 6 mC) all,iD k] (kW rr):=⟨@fun rr h=>by
 delta nX at h;refine aal.jC (gZ ?_);delta YA;refine iN ?_;refine j_ h fun hp h=>?_
 refine rC h fun r hr h=>?_
 refine um h [1,6,15,16,17,18,19,20,21,22,23,24,25,26,27,28,29] (fun pp=>[(1,.d (iD pp.1)),(6,.own 3 29 (List.map iW pp.2))]) (fun pp=>[(4,.obj 50 [.d (.sl 0 (some true) []),.d (.sl 0 (some true) [])]),(5,.obj 50 [.d (ia 1 iD r),.d (.sl 0 (some true) [])]),(29,.tok 95 3 pp.2.length)]) ?_ ?_
 ·try dsimp only
  refine(iL.Mj 6 29 95 3 rfl rfl).trans ?_;exact wk
 rintro⟨k_1,steps⟩ t1 h hb1;unfold lT at h;try dsimp only at h
 refine gZ (iN ?_);refine it h (fun hc h=>?_) fun hc h=>?_
 ·refine j_ h fun hp h=>?_
  refine j_ h fun hp h=>?_
  refine j_ h fun hp h=>?_
  cases h;refine⟨_,rfl,?_⟩;refine(iL.drop 28 gY).trans ?_;exact wk
 replace h:=iZ h hb1;refine rB [] [] h fun r_1 hr_1 h=>?_
 refine Ve [6,30] ?_;refine Rw (enc:=iW) (e:=3) (xs:=steps) h (Wq _) 6 (fun pp=>[(4,.obj 50 [.d (.sl 0 (some true) []),.d (.sl 0 (some true) [])]),(5,.obj 50 [.d (ia 1 iD r),.own 3 300000 (List.map iW pp)]),(300000,.tok 95 3 pp.length)]) ?_ ?_ ?_
 ·try dsimp only
  refine(iL.drop 29 gY).trans ?_;refine(iL.xC 5 1 300000 95 3 rfl rfl rfl).trans ?_;exact wk
 ·rintro jj w t1 hj h hb1;unfold lU at h;try dsimp only at h
  rw[ah hj]at h;refine iN ?_;refine rB [(0,5),(1,300000)] [] h fun r_2 hr_2 h=>?_
  cases h;refine⟨_,rfl,?_⟩;exact⟨_,(iL.drop 8 gY).trans (wk (iS.refl _))⟩
 ·rintro w t1 h hb1;unfold lU at h;try dsimp only at h
  rw[ak (eH _)]at h;refine iN ?_;exact mA⟩
def Yg:ie:=
 (.seq (.h_ (sq 4 [bo 4 33 0]++sq 8 [.alloc 8 50 [.sl 0 (some true) [],.sl 0 (some true) []],.alloc 9 50 [.sl 0 (some true) [],.sl 0 (some true) []],mb false])) (.seq (.h_ (sq 19 [la 2 4,mv 1,mv 3,cf 81 [19,20,21]]++sq 18 [mv 22]++sq 23 [ex 18 0,ex 18 1]++sq 11 [mv 23,mv 24])) (.seq (.h_ (sq 26 [la 2 4,mv 2,mv 3,cf 81 [26,27,28]]++sq 25 [mv 29]++sq 30 [ex 25 0,ex 25 1]++sq 13 [mv 30,mv 31])) (.seq (.seq (.h_ (sq 32 [mv 11,ln 32,mi 0])) (.block 0 (.loop (.seq (.h_ (sq 35 [bn .lss 34 33])) (.seq (.cond (t0 35) .skip (.exit 0)) (.seq (.block 1 (.seq (.h_ (sq 36 [mv 34,ix 6 32 34,la 6 37]++sq 16 [.alloc 16 133 [.sl 0 (some true) [],.lit (.int .i64 0),.lit (.int .i64 0),.lit (.int .i64 0),.sl 0 (some true) [],.lit (.int .i64 0)]]++sq 15 [mv 36]++s0 (sr 6 16 38))) (.seq (.h_ (sq 39 [mv 13,fa 0 16,ld 40,cf 82 [39,41]]++sq 17 [mv 42])) (.seq (.h_ (sq 43 [mv 17,bi .geq 43 0])) (.cond (t0 44) (.seq (.h_ (sq 45 [mv 11,mv 15,cf 83 [45,46],mv 13,mv 17,cf 83 [48,49]]++s0 (sr 2 8 47)++s0 (sr 2 9 50)++sq 10 [mb true])) .ret) .skip))))) (.h_ (sq 51 [bi .add 34 1]++sq 34 [mv 51])))))))) (.seq (.h_ (sq 52 [.build [.sl 0 (some true) [],.sl 0 (some true) []] [],.build [.sl 0 (some true) [],.sl 0 (some true) []] []]++s0 (sr 2 8 52)++s0 (sr 2 9 53)++sq 10 [mb false])) .ret)))))
theorem Z1:kH Tryz.prog 48 Yg 54 [.cell 8 2 true,.cell 9 2 true,.tmp 10]:=mf Tryz.func48 Tryz.ntmps48
def kO(r:(gS×Bool))(r_1:(gS×Bool)):Int->Option (Int⊕(gM×gM×Bool))
 |v34=>
  if(decide (v34<(r.1.length:Int)))=true then
   if 0<=v34/\v34<(r.1.length:Int)then
    (qJ r_1.1 ((r.1.getD v34.toNat default).1)).bind fun r_2=>
    if(decide (0<=r_2))=true then
     (nX r.1 v34).bind fun r_3=>
     (nX r_1.1 r_2).bind fun r_4=>
     Option.map Sum.inr (
      some (r_3,r_4,true))
    else
     some (.inl (IntKind.i64.wrap (v34+1)))
   else none
  else
   Option.map Sum.inr (
    some (([],[]),([],[]),false))
def jY(sys:gJ)(a:gv)(b:gv)(steps:Int):Option (gM×gM×Bool):=
 (qM sys a steps).bind fun r=>
 (qM sys b steps).bind fun r_1=>
 iw (kO r r_1) 0
instance BZ{sys:gJ}{a:gv}{b:gv}{steps:Int}:iR (jY sys a b steps) fun rr=>oH Tryz.prog 48 [iA sys,(ia 1 iD) a,(ia 1 iD) b,iD steps] [kW rr.1,kW rr.2.1,bD rr.2.2]:=⟨@fun rr h=>by
 delta jY at h;refine Z1.pg (gZ ?_);delta Yg;refine iN ?_;refine R8 h fun r hr h=>?_
 refine R8 h fun r_1 hr_1 h=>?_
 refine kT h [10,15,16,17,34,35,36,37,38,39,40,41,42,43,44,45,46,47,48,49,50,51] (fun pp=>[(34,.d (iD pp))]) (fun pp=>[(4,.obj 33 [.d (ia 1 iD sys.1),.d (ia 2 g_ sys.2)]),(8,.obj 50 [.d (.sl 0 (some true) []),.d (.sl 0 (some true) [])]),(9,.obj 50 [.d (.sl 0 (some true) []),.d (.sl 0 (some true) [])])]) ?_;rintro v34 t1 h hb1;unfold kO at h;try dsimp only at h
 refine gZ (iN ?_);refine iT h fun hc h=>?_
 refine j_ h fun hp h=>?_
 refine rC h fun r_2 hr_2 h=>?_
 refine iF h fun hc h=>?_
 cases h;refine⟨_,rfl,?_⟩;refine(iL.drop 16 gY).trans ?_;exact wk⟩
end Go.Proofs.YtjgbnaihpicpgaaGreatDoor
namespace Go.Proofs.YtjgbnaihpicpgaaGreatDoor
open Go.RowKit Go.Extern.Stop Go.Stop Go.Extern Go.Extern.Rtype
set_option maxHeartbeats 4000000
set_option maxRecDepth 20000
theorem Om(v:Value)(w:World):(Extern.ReflectliteType.typeOf #[.iface 242 v]).run Tryz.prog w=.ok (.iface 148 (.agg #[.pointer (some ⟨1,242,none⟩)])) w:=by kernel_rfl
theorem Fx(w:World):((Extern.ReflectliteType.method fun t=>do noPackHeld "Comparable" t;pure (.bool (<-typeInfo t).comparable)) #[.agg #[.pointer (some ⟨1,242,none⟩)]]).run Tryz.prog w=.ok (.bool true) w:=by kernel_rfl
theorem En(w:World):((Extern.ReflectliteType.method fun t=>do noPackHeld "Comparable" t;(fun a=>Value.bool a.comparable)<$>typeInfo t) #[.agg #[.pointer (some ⟨1,242,none⟩)]]).run Tryz.prog w=.ok (.bool true) w:=by kernel_rfl
theorem Am(v:Value)(w:World):(Go.method 380 148 v "Comparable").run Tryz.prog w=.ok (191,v) w:=by kernel_rfl
theorem U0:(Tryz.prog.info? 242).map (·.comparable)=some true:=by kernel_rfl
theorem U1:(Tryz.prog.info? 268).map (·.size)=some 1:=by kernel_rfl
theorem YS(v:Value)(xT:TypeId)(w:World):(Instr.typeAssert (.iface 84 v) xT 150 true).run Tryz.prog w=.ok (.tuple #[.nilIface,.bool false]) w:=run_typeAssert_lacksB Tryz.underlying150 (by kernel_rfl) (by kernel_rfl) v xT w
theorem IL(v:Value)(xT:TypeId)(w:World):(Instr.typeAssert (.iface 84 v) xT 153 true).run Tryz.prog w=.ok (.tuple #[.iface 84 v,.bool true]) w:=run_typeAssert_hasB Tryz.underlying153 (by kernel_rfl) v xT w
theorem FC(v:Value)(w:World):(Go.method 380 84 v "Unwrap").run Tryz.prog w=.ok (187,v) w:=by kernel_rfl
theorem G1(pb:Nat)(b:Addr)(w:World)(h1:w.cell? ⟨pb,6,none⟩=some (.iface 242 (.pointer (some b)))):
 Calls Tryz.prog 37 #[.iface 84 (.pointer (some ⟨pb,0,none⟩)),.iface 242 (.pointer (some b))] w fun e w'=>e=.returned (.bool true)/\w'=w:=by
 obtain⟨i,hi,hcmp⟩:=az.1 U0;obtain⟨j,hj,hjs⟩:=az.1 U1;have h8:=@run_callFunc_extern Tryz.prog 69 _ Extern.ReflectliteType.typeOf Tryz.func69 (by kernel_rfl) (by kernel_rfl) (by kernel_rfl) (by kernel_rfl);have h32:=@run_callFunc_extern Tryz.prog 191 _ (Extern.ReflectliteType.method fun t=>do noPackHeld "Comparable" t;pure (.bool (<-typeInfo t).comparable)) Tryz.func191 (by kernel_rfl) (by kernel_rfl) (by kernel_rfl) (by kernel_rfl);have tT:=Om;have cT:=Fx;have cT2:=En;have mR:=Am;have nW:=YS;have uW:=IL;have mU:=FC;have heq:=run_eql_iface_ptr_same (P:=Tryz.prog) w b Tryz.underlying71 Tryz.underlying242 hi hcmp hj;have hty:=run_eql_iface_types (P:=Tryz.prog) 84 242 (.pointer (some ⟨pb,0,none⟩)) (.pointer (some b)) Tryz.underlying71 (by decide) w;have his:Calls Tryz.prog 70 #[.iface 84 (.pointer (some ⟨pb,0,none⟩)),.iface 242 (.pointer (some b)),.bool true] w fun e w'=>e=.returned (.bool true)/\w'=w:=by
  go_enter Tryz.func70,Tryz.ntmps70
  go_wp2
  refine wp_loop_rounds 2 ?_;rw[rounds_succ]
  go_wp2
  rw[rounds_succ]
  go_wp2
  go_ret
  exact⟨rfl,rfl⟩
 go_enter Tryz.func37,Tryz.ntmps37
 go_wp2_with (go_at_call 70;refine his.mono ?_;rintro e w2 ⟨rfl,rfl⟩)
 go_ret
 exact⟨rfl,rfl⟩
theorem U2(b:Addr)(w:World):
 Calls Tryz.prog 37 #[.nilIface,.iface 242 (.pointer (some b))] w fun e w'=>e=.returned (.bool false)/\w'=w:=by
 have hn:=run_eql_iface_nil_left (P:=Tryz.prog) w 242 (.pointer (some b)) Tryz.underlying71
 go_enter Tryz.func37,Tryz.ntmps37
 go_wp2
 go_ret
 exact⟨rfl,rfl⟩
end Go.Proofs.YtjgbnaihpicpgaaGreatDoor
namespace Go.Proofs.YtjgbnaihpicpgaaGreatDoor
open Go mm Go.RowKit
set_option maxHeartbeats 4000000
set_option maxRecDepth 20000
abbrev qd:mm.Own:=fun _ _=>False
theorem Ua{P:Program}{f:Nat}{ds rs:List D}(h:oH P f ds rs){W:World}(hgw:GW qd W){vs:Array Value}(hd:AV.iK (fun _=>.no) qd W (ds.map .d) vs.toList):
 Calls P f vs W fun e W'=>(∃us:Array Value,e=.returned (.tuple us)/\AV.iK (fun _=>.no) qd W' (rs.map .d) us.toList)/\Below W.heap.size W W':=by
 have no:∀(b o:Nat),¬({O:=fun _ _=>False,β:=fun _=>.no,s:=[],w:=W,k:=0}:Ctx).ir (fun _=>.no) [] b o:=fun b o h=>by
  rcases h with h|⟨i,h⟩
  ·exact h
  ·exact h
 have hI:Inv {O:=fun _ _=>False,β:=fun _=>.no,s:=[],w:=W,k:=0} (fun _=>.no) [] W:=
  ⟨aF _,rfl,⟨hgw.1,fun h=>no _ _ h⟩,fun _ _ _ h _=>h,fun _ _ _=>rfl,fun _ _ h=>.inl h,fun id b h=>.inl ⟨id,h⟩,fun _ h=>absurd h (gj _),fun _ _ h=>h.elim,fun _=>rfl,fun _ _ _ h=>h.elim⟩
 have ha:AV.iK (fun _=>.no) (({O:=fun _ _=>False,β:=fun _=>.no,s:=[],w:=W,k:=0}:Ctx).ir (fun _=>.no) []) W (ds.map .d) vs.toList:=by
  have e:(({O:=fun _ _=>False,β:=fun _=>.no,s:=[],w:=W,k:=0}:Ctx).ir (fun _=>.no) [])=qd:=by
   funext b o;exact propext ⟨fun h=>no b o h,fun h=>h.elim⟩
  rw[e];exact hd
 refine(h {O:=fun _ _=>False,β:=fun _=>.no,s:=[],w:=W,k:=0} vs rfl rfl hI ha).mono fun e W' hq=>?_
 obtain⟨u,x,β',s',rfl,hi,hx,rfl,rfl⟩:=hq;simp only[AV.ok]at hx;obtain⟨us,rfl,hx⟩:=hx;refine⟨⟨us,rfl,FI (AV.jy (fun b o v hc _=>⟨hc,fun h=>h⟩) (fun _=>.refl _) _ _ hx)⟩,?_⟩;have hio:=hi.io;simp only[yo,dS]at hio;exact⟨hio.1,hio.2.2,hio.2.1,hi.size,fun k hk=>hi.qq k hk fun id h=>h⟩
theorem p_{B:Nat}{w w':World}(h:Below B w w')(hb:B<=w'.heap.size)(o:Obj):Below B w (w'.alloc o):=
 h.trans ⟨rfl,rfl,rfl,by simp,fun k hk=>aS w' o k gY⟩
theorem yB{O:mm.Own}{w:World}{cs:List D}{v:Value}(h:D.ok O w (.agg cs) v):∃vs:Array Value,v=.agg vs/\D.iK O w cs vs.toList:=by simp only[D.ok]at h;exact h
theorem Fa{O:mm.Own}{w:World}{x:gM}{v:Value}(h:D.ok O w (kW x) v):∃p l c q m d,v=.agg #[.slice p l c,.slice q m d]:=by
 obtain⟨vs,rfl,h9⟩:=yB (cs:=[ia 1 iD x.1,ia 3 iW x.2]) h;simp only[D.iK]at h9;obtain⟨s0,r0,e0,o0,d0,s1,r1,rfl,o1,d1,rfl⟩:=h9;obtain rfl:vs=#[s0,s1]:=cz (by simpa using e0);have d0':D.ok O w (.sl 1 none (x.1.map iD)) s0:=d0;have d1':D.ok O w (.sl 3 none (x.2.map iW)) s1:=d1;simp only[D.ok]at d0' d1';obtain⟨p,c,rfl,_⟩:=d0';obtain⟨q,d,rfl,_⟩:=d1';exact⟨_,_,_,_,_,_,rfl⟩
theorem PL{β:iE}{O:mm.Own}{w:World}{x1 x2:gM}{b:Bool}{us:Array Value}(h:AV.iK β O w (List.map .d [kW x1,kW x2,bD b]) us.toList):
 ∃p1 l1 c1 p2 l2 c2 p3 l3 c3 p4 l4 c4,us=#[.agg #[.slice p1 l1 c1,.slice p2 l2 c2],.agg #[.slice p3 l3 c3,.slice p4 l4 c4],.bool b]:=by
 simp only[List.map,AV.iK,AV.ok]at h;obtain⟨v0,r0,e0,h0,v1,r1,e1,h1,v2,r2,e2,h2,e3⟩:=h;obtain⟨p1,l1,c1,p2,l2,c2,rfl⟩:=Fa h0;obtain⟨p3,l3,c3,p4,l4,c4,rfl⟩:=Fa h1;obtain⟨rfl,_⟩:=h2;subst e3 e2 e1;exact⟨p1,l1,c1,p2,l2,c2,p3,l3,c3,p4,l4,c4,cz (by simpa using e0)⟩
theorem DD{sys:gJ}{a b:gv}{q0' q3' q4' q5':Value}{steps:Int}{rr}(hj:jY sys a b steps=some rr)
 {W:World} (hgw:GW qd W) {v0 va vb v2:Value} (h0:D.ok qd W (iA sys) v0) (ha:D.ok qd W ((ia 1 iD) a) va) (hb:D.ok qd W ((ia 1 iD) b) vb) (h2:D.ok qd W (iD steps) v2) (e:Addr) (he:W.cell? ⟨0,0,none⟩=some (.iface 242 (.pointer (some e)))):
 Calls Tryz.prog 38 #[v0,.agg #[q0',va,vb,q3',q4',q5'],v2] W fun r W'=>Below W.heap.size W W'/\
  ((rr.2.2=true/\r=.returned .nilIface)\/(rr.2.2=false/\∃pb,r=.returned (.iface 84 (.pointer (some ⟨pb,0,none⟩)))/\W'.cell? ⟨pb,6,none⟩=some (.iface 242 (.pointer (some e))))):=by
 obtain⟨vs0,rfl,h0'⟩:=yB h0;simp only[D.iK]at h0';obtain⟨s0,r0,e0,o0,d0,s1,r1,rfl,o1,d1,rfl⟩:=h0';obtain rfl:vs0=#[s0,s1]:=cz (by simpa using e0);have hcall:=fun(W1:World)(hg1:GW qd W1)(x0:D.ok qd W1 (iA sys) (.agg #[s0,s1]))(xa:D.ok qd W1 ((ia 1 iD) a) va)(xb:D.ok qd W1 ((ia 1 iD) b) vb)(x2:D.ok qd W1 (iD steps) v2)=>
  Ua (BZ.c hj) hg1 (vs:=#[.agg #[s0,s1],va,vb,v2]) ⟨_,_,rfl,x0,_,_,rfl,xa,_,_,rfl,xb,_,_,rfl,x2,rfl⟩
 let W2:World:=(W.alloc (.cells #[s0,s1] 33)).alloc (.cells #[q0',va,vb,q3',q4',q5'] 54);have hk:∀b o v,W.cell? ⟨b,o,none⟩=some v->W2.cell? ⟨b,o,none⟩=some v:=fun b o v hc=>by
  have hb:=jW hc;exact(bZ _ _ _ (by show b<(W.alloc _).heap.size;simp;omega)).trans ((bZ W _ _ hb).trans hc)
 have hB2:Below W.heap.size W W2:=⟨rfl,rfl,rfl,by simp[W2];omega,fun k hk=>by
  show((W.alloc _).alloc _).heap[k]?=_;rw[aS _ _ _ (by simp;omega),aS _ _ _ hk]⟩
 have hc2:=hcall W2 (hgw.mono fun b o v hc hn=>⟨hk b o v hc,hn⟩) (D.iY (fun b o v hc hn=>⟨hk b o v hc,hn⟩) _ _ h0) (D.iY (fun b o v hc hn=>⟨hk b o v hc,hn⟩) _ _ ha) (D.iY (fun b o v hc hn=>⟨hk b o v hc,hn⟩) _ _ hb) (D.iY (fun b o v hc hn=>⟨hk b o v hc,hn⟩) _ _ h2);have hc3:Calls Tryz.prog 48 #[.agg #[s0,s1],va,vb,v2] W2 fun r w3=>∃p1 l1 c1 p2 l2 c2 p3 l3 c3 p4 l4 c4,r=.returned (.tuple #[.agg #[.slice p1 l1 c1,.slice p2 l2 c2],.agg #[.slice p3 l3 c3,.slice p4 l4 c4],.bool rr.2.2])/\Below W2.heap.size W2 w3:=
  hc2.mono fun r w3 ⟨⟨us,hr,hus⟩,hbel⟩=>by
   obtain⟨p1,l1,c1,p2,l2,c2,p3,l3,c3,p4,l4,c4,rfl⟩:=PL hus;exact⟨p1,l1,c1,p2,l2,c2,p3,l3,c3,p4,l4,c4,hr,hbel⟩
 clear hc2 hcall;have hsz2:W2.heap.size=W.heap.size+2:=by simp[W2]
 have hnew:W2.heap[W.heap.size+1]?=some (.cells #[q0',va,vb,q3',q4',q5'] 54 (0,0)):=by
  have:=cL (W.alloc (.cells #[s0,s1] 33)) (.cells #[q0',va,vb,q3',q4',q5'] 54);simpa[W2]using this
 have keep2:∀{w3:World},Below W2.heap.size W2 w3->∀{v:Value}(j:Nat),(#[q0',va,vb,q3',q4',q5']:Array Value)[j]?=some v->∀o1 o2,((w3.alloc o1).alloc o2).cell? ⟨W.heap.size+1,j,none⟩=some v:=fun{w3} hb {v} j hv o1 o2=>by
  have h1:w3.heap[W.heap.size+1]?=W2.heap[W.heap.size+1]?:=hb.block _ gY;have h2:W.heap.size+1<w3.heap.size:=by have:=hb.size;omega
  rw[bJ ((aS _ _ _ (by simp;omega)).trans ((aS w3 _ _ h2).trans h1))];simp only[World.cell?,hnew];exact hv
 have keepe:∀{w3:World},Below W2.heap.size W2 w3->∀o1 o2,((w3.alloc o1).alloc o2).cell? ⟨0,0,none⟩=some (.iface 242 (.pointer (some e))):=fun{w3} hb o1 o2=>by
  have h0:=jW he;have h0':0<W.heap.size:=h0;have h1:w3.heap[0]?=W2.heap[0]?:=hb.block _ gY;have h2:0<w3.heap.size:=by have:=hb.size;omega
  rw[bJ ((aS _ _ _ (by simp)).trans ((aS w3 _ _ h2).trans h1))];exact hk 0 0 _ he
 cases hrr:rr.2.2 with
 |true=>
  rw[hrr]at hc3
  go_enter Tryz.func38,Tryz.ntmps38
  go_wp2_with (go_at_call 48;refine hc3.mono ?_;rintro r w3 ⟨p1,l1,c1,p2,l2,c2,p3,l3,c3,p4,l4,c4,rfl,hbel⟩)
  have hB3:Below W.heap.size W w3:=hB2.trans ⟨hbel.os,hbel.tape,hbel.output,hbel.size,fun k hk=>hbel.block k gY⟩;have hs3:=hbel.size
  go_ret
  exact⟨p_ (p_ hB3 gY _) (by simp;omega) _,.inl ⟨trivial,rfl⟩⟩
 |false=>
  rw[hrr]at hc3
  go_enter Tryz.func38,Tryz.ntmps38
  go_wp2_with (go_at_call 48;refine hc3.mono ?_;rintro r w3 ⟨p1,l1,c1,p2,l2,c2,p3,l3,c3,p4,l4,c4,rfl,hbel⟩;have q0:=keep2 hbel (v:=q0') 0 rfl;have q1:=keep2 hbel (v:=va) 1 rfl;have q2:=keep2 hbel (v:=vb) 2 rfl;have q3:=keep2 hbel (v:=q3') 3 rfl;have q4:=keep2 hbel (v:=q4') 4 rfl;have q5:=keep2 hbel (v:=q5') 5 rfl;have qe:=keepe hbel)
  have hB3:Below W.heap.size W w3:=hB2.trans ⟨hbel.os,hbel.tape,hbel.output,hbel.size,fun k hk=>hbel.block k gY⟩;have hs3:=hbel.size
  go_ret
  refine⟨p_ (p_ (p_ hB3 gY _) (by simp;omega) _) (by simp;omega) _,.inr ⟨trivial,_,rfl,?_⟩⟩;have hq:=cL ((w3.alloc (.cells #[.slice p1 l1 c1,.slice p2 l2 c2] 50)).alloc (.cells #[.slice p3 l3 c3,.slice p4 l4 c4] 50)) (.cells #[q0',va,vb,q3',q4',q5',.iface 242 (.pointer (some e))] 88);rw[show((w3.alloc (.cells #[.slice p1 l1 c1,.slice p2 l2 c2] 50)).alloc (.cells #[.slice p3 l3 c3,.slice p4 l4 c4] 50)).heap.size=w3.heap.size+1+1 by simp]at hq;simp only[World.cell?,hq];rfl
theorem Gi{sys:gJ}{a b:gv}{q0' q3' q4' q5':Value}{steps:Int}{rr}(hj:jY sys a b steps=some rr)
 {W:World} (hgw:GW qd W) {s0 s1 va vb v2:Value} {b0 b1:Nat} (h0:D.ok qd W (iA sys) (.agg #[s0,s1])) (ha:D.ok qd W ((ia 1 iD) a) va) (hb:D.ok qd W ((ia 1 iD) b) vb) (h2:D.ok qd W (iD steps) v2)
 (c00:W.cell? ⟨b0,0,none⟩=some s0) (c01:W.cell? ⟨b0,1,none⟩=some s1) (c10:W.cell? ⟨b1,0,none⟩=some v2):
 Calls Tryz.prog 36 #[.agg #[q0',va,vb,q3',q4',q5'],.pointer (some ⟨b0,0,none⟩),.pointer (some ⟨b1,0,none⟩)] W fun r W'=>Below W.heap.size W W'/\r=.returned (.bool (!rr.2.2)):=by
 obtain⟨⟨e,he⟩,hno⟩:=hgw;have hlt0:b0<W.heap.size:=jW c00;have hlt1:b1<W.heap.size:=jW c10;have hlte:0<W.heap.size:=jW he;have k00:(W.alloc (.cells #[q0',va,vb,q3',q4',q5'] 54)).cell? ⟨b0,0,none⟩=some s0:=(bZ W _ _ hlt0).trans c00;have k01:(W.alloc (.cells #[q0',va,vb,q3',q4',q5'] 54)).cell? ⟨b0,1,none⟩=some s1:=(bZ W _ _ hlt0).trans c01;have k10:(W.alloc (.cells #[q0',va,vb,q3',q4',q5'] 54)).cell? ⟨b1,0,none⟩=some v2:=(bZ W _ _ hlt1).trans c10;have ke:(W.alloc (.cells #[q0',va,vb,q3',q4',q5'] 54)).cell? ⟨0,0,none⟩=some (.iface 242 (.pointer (some e))):=(bZ W _ _ hlte).trans he;have hkp:∀b o v,W.cell? ⟨b,o,none⟩=some v->(W.alloc (.cells #[q0',va,vb,q3',q4',q5'] 54)).drew.cell? ⟨b,o,none⟩=some v:=fun b o v hc=>(bZ W _ _ (jW hc)).trans hc
 have hmo:∀b o v,W.cell? ⟨b,o,none⟩=some v->¬qd b o->(W.alloc (.cells #[q0',va,vb,q3',q4',q5'] 54)).drew.cell? ⟨b,o,none⟩=some v/\¬qd b o:=fun b o v hc hn=>⟨hkp b o v hc,hn⟩
 have hJ:=DD (q0':=q0') (q3':=q3') (q4':=q4') (q5':=q5') hj (GW.mono (O:=qd) ⟨⟨e,he⟩,hno⟩ hmo) (D.iY hmo _ _ h0) (D.iY hmo _ _ ha) (D.iY hmo _ _ hb) (D.iY hmo _ _ h2) e (hkp 0 0 _ he);have hB1:Below W.heap.size W (W.alloc (.cells #[q0',va,vb,q3',q4',q5'] 54)).drew:=⟨rfl,rfl,rfl,by show _<=(W.alloc _).heap.size;simp,fun k hk=>aS W _ k hk⟩;have hsz:(W.alloc (.cells #[q0',va,vb,q3',q4',q5'] 54)).drew.heap.size=W.heap.size+1:=by show(W.alloc _).heap.size=_;simp
 have hB3:∀{w3:World},Below (W.alloc (.cells #[q0',va,vb,q3',q4',q5'] 54)).drew.heap.size (W.alloc (.cells #[q0',va,vb,q3',q4',q5'] 54)).drew w3->Below W.heap.size W w3/\w3.cell? ⟨0,0,none⟩=some (.iface 242 (.pointer (some e))):=fun{w3} hb=>by
  refine⟨hB1.trans ⟨hb.os,hb.tape,hb.output,hb.size,fun k hk=>hb.block k gY⟩,?_⟩;rw[bJ (hb.block 0 gY)];exact hkp 0 0 _ he
 have hnew:(W.alloc (.cells #[q0',va,vb,q3',q4',q5'] 54)).drew.heap[W.heap.size]?=some (.cells #[q0',va,vb,q3',q4',q5'] 54 (0,0)):=cL W (.cells #[q0',va,vb,q3',q4',q5'] 54);have hS0:(W.alloc (.cells #[q0',va,vb,q3',q4',q5'] 54)).drew.cell? ⟨b0,0,none⟩=some s0/\(W.alloc (.cells #[q0',va,vb,q3',q4',q5'] 54)).drew.cell? ⟨b0,1,none⟩=some s1/\(W.alloc (.cells #[q0',va,vb,q3',q4',q5'] 54)).drew.cell? ⟨b1,0,none⟩=some v2/\(W.alloc (.cells #[q0',va,vb,q3',q4',q5'] 54)).drew.cell? ⟨0,0,none⟩=some (.iface 242 (.pointer (some e)))/\(W.alloc (.cells #[q0',va,vb,q3',q4',q5'] 54)).drew.cell? ⟨W.heap.size,0,none⟩=some q0'/\(W.alloc (.cells #[q0',va,vb,q3',q4',q5'] 54)).drew.cell? ⟨W.heap.size,1,none⟩=some va/\(W.alloc (.cells #[q0',va,vb,q3',q4',q5'] 54)).drew.cell? ⟨W.heap.size,2,none⟩=some vb/\(W.alloc (.cells #[q0',va,vb,q3',q4',q5'] 54)).drew.cell? ⟨W.heap.size,3,none⟩=some q3'/\(W.alloc (.cells #[q0',va,vb,q3',q4',q5'] 54)).drew.cell? ⟨W.heap.size,4,none⟩=some q4'/\(W.alloc (.cells #[q0',va,vb,q3',q4',q5'] 54)).drew.cell? ⟨W.heap.size,5,none⟩=some q5':=by
  refine⟨k00,k01,k10,ke,?_,?_,?_,?_,?_,?_⟩<;>(simp only[World.cell?,hnew];rfl)
 have hS3:∀{w3:World},Below (W.alloc (.cells #[q0',va,vb,q3',q4',q5'] 54)).drew.heap.size (W.alloc (.cells #[q0',va,vb,q3',q4',q5'] 54)).drew w3->w3.cell? ⟨b0,0,none⟩=some s0/\w3.cell? ⟨b0,1,none⟩=some s1/\w3.cell? ⟨b1,0,none⟩=some v2/\w3.cell? ⟨0,0,none⟩=some (.iface 242 (.pointer (some e)))/\w3.cell? ⟨W.heap.size,0,none⟩=some q0'/\w3.cell? ⟨W.heap.size,1,none⟩=some va/\w3.cell? ⟨W.heap.size,2,none⟩=some vb/\w3.cell? ⟨W.heap.size,3,none⟩=some q3'/\w3.cell? ⟨W.heap.size,4,none⟩=some q4'/\w3.cell? ⟨W.heap.size,5,none⟩=some q5':=fun{w3} hb=>by
  have hh:∀b o v,b<W.heap.size+1->(W.alloc (.cells #[q0',va,vb,q3',q4',q5'] 54)).drew.cell? ⟨b,o,none⟩=some v->w3.cell? ⟨b,o,none⟩=some v:=fun b o v hl hc=>(bJ (hb.block b gY)).trans hc
  obtain⟨g0,g1,g2,g3,g4,g5,g6,g7,g8,g9⟩:=hS0;exact⟨hh _ _ _ gY g0,hh _ _ _ gY g1,hh _ _ _ gY g2,hh _ _ _ gY g3,hh _ _ _ gY g4,hh _ _ _ gY g5,hh _ _ _ gY g6,hh _ _ _ gY g7,hh _ _ _ gY g8,hh _ _ _ gY g9⟩
 cases hrr:rr.2.2 with
 |true=>
  have hJ1:Calls Tryz.prog 38 #[.agg #[s0,s1],.agg #[q0',va,vb,q3',q4',q5'],v2] (W.alloc (.cells #[q0',va,vb,q3',q4',q5'] 54)).drew fun r w3=>r=.returned .nilIface/\Below W.heap.size W w3/\w3.cell? ⟨b0,0,none⟩=some s0/\w3.cell? ⟨b0,1,none⟩=some s1/\w3.cell? ⟨b1,0,none⟩=some v2/\w3.cell? ⟨0,0,none⟩=some (.iface 242 (.pointer (some e)))/\w3.cell? ⟨W.heap.size,0,none⟩=some q0'/\w3.cell? ⟨W.heap.size,1,none⟩=some va/\w3.cell? ⟨W.heap.size,2,none⟩=some vb/\w3.cell? ⟨W.heap.size,3,none⟩=some q3'/\w3.cell? ⟨W.heap.size,4,none⟩=some q4'/\w3.cell? ⟨W.heap.size,5,none⟩=some q5':=hJ.mono fun r w3 ⟨h1,h2⟩=>by
   rcases h2 with⟨_,h2⟩|⟨h2,_⟩
   ·exact⟨h2,(hB3 h1).1,hS3 h1⟩
   ·rw[hrr]at h2;cases h2
  clear hJ hB3 hS3
  go_enter Tryz.func36,Tryz.ntmps36
  go_wp2
  go_region_held3 (fun w':World=>w'.cell? ⟨b0,0,none⟩=some s0/\w'.cell? ⟨b0,1,none⟩=some s1/\w'.cell? ⟨b1,0,none⟩=some v2/\w'.cell? ⟨0,0,none⟩=some (.iface 242 (.pointer (some e)))/\w'.cell? ⟨W.heap.size,0,none⟩=some q0'/\w'.cell? ⟨W.heap.size,1,none⟩=some va/\w'.cell? ⟨W.heap.size,2,none⟩=some vb/\w'.cell? ⟨W.heap.size,3,none⟩=some q3'/\w'.cell? ⟨W.heap.size,4,none⟩=some q4'/\w'.cell? ⟨W.heap.size,5,none⟩=some q5') (first|assumption) (first
   |(go_at_call 38;refine hJ1.mono ?_;rintro r w3 ⟨rfl,hB,hc⟩)
   |(go_at_call 37;refine(U2 e _).mono ?_;rintro r w4 ⟨rfl,rfl⟩))
  go_wp2
  go_ret
  exact⟨hB,rfl⟩
 |false=>
  have hJ1:Calls Tryz.prog 38 #[.agg #[s0,s1],.agg #[q0',va,vb,q3',q4',q5'],v2] (W.alloc (.cells #[q0',va,vb,q3',q4',q5'] 54)).drew fun r w3=>(∃pb,r=.returned (.iface 84 (.pointer (some ⟨pb,0,none⟩)))/\w3.cell? ⟨pb,6,none⟩=some (.iface 242 (.pointer (some e))))/\Below W.heap.size W w3/\w3.cell? ⟨b0,0,none⟩=some s0/\w3.cell? ⟨b0,1,none⟩=some s1/\w3.cell? ⟨b1,0,none⟩=some v2/\w3.cell? ⟨0,0,none⟩=some (.iface 242 (.pointer (some e)))/\w3.cell? ⟨W.heap.size,0,none⟩=some q0'/\w3.cell? ⟨W.heap.size,1,none⟩=some va/\w3.cell? ⟨W.heap.size,2,none⟩=some vb/\w3.cell? ⟨W.heap.size,3,none⟩=some q3'/\w3.cell? ⟨W.heap.size,4,none⟩=some q4'/\w3.cell? ⟨W.heap.size,5,none⟩=some q5':=hJ.mono fun r w3 ⟨h1,h2⟩=>by
   rcases h2 with⟨h2,_⟩|⟨_,h2⟩
   ·rw[hrr]at h2;cases h2
   ·exact⟨h2,(hB3 h1).1,hS3 h1⟩
  clear hJ hB3 hS3
  go_enter Tryz.func36,Tryz.ntmps36
  go_wp2
  go_region_held3 (fun w':World=>w'.cell? ⟨b0,0,none⟩=some s0/\w'.cell? ⟨b0,1,none⟩=some s1/\w'.cell? ⟨b1,0,none⟩=some v2/\w'.cell? ⟨0,0,none⟩=some (.iface 242 (.pointer (some e)))/\w'.cell? ⟨W.heap.size,0,none⟩=some q0'/\w'.cell? ⟨W.heap.size,1,none⟩=some va/\w'.cell? ⟨W.heap.size,2,none⟩=some vb/\w'.cell? ⟨W.heap.size,3,none⟩=some q3'/\w'.cell? ⟨W.heap.size,4,none⟩=some q4'/\w'.cell? ⟨W.heap.size,5,none⟩=some q5') (first|assumption) (first
   |(go_at_call 38;refine hJ1.mono ?_;rintro r w3 ⟨⟨pb,rfl,hpb⟩,hB,hc⟩)
   |(go_at_call 37;refine(G1 pb e _ hpb).mono ?_;rintro r w4 ⟨rfl,rfl⟩))
  go_wp2
  go_ret
  exact⟨hB,rfl⟩
theorem Pq{O:mm.Own}{w:World}{x:D}{v:Value}(h:D.ok O w x v):D.ok qd w x v:=D.iY (fun b o v hc _=>⟨hc,fun h=>h⟩) _ _ h
def oe(p:gw)(o0:gv)(o1:gC)(o2:Int):Option Bool:=
 (jY (o0,o1) p.2.1 p.2.2.1 o2).map fun rr=>!rr.2.2
instance JX{p:gw}{o0:gv}{o1:gC}{o2:Int}:iR (oe p o0 o1 o2) fun rr=>iC Tryz.prog 36 [.d (.agg [ia 1 iD p.1,ia 1 iD p.2.1,ia 1 iD p.2.2.1,iD p.2.2.2.1,iD p.2.2.2.2.1,iD p.2.2.2.2.2]),.ptr 0 0,.ptr 1 0] [(0,.obj 33 [.d (ia 1 iD o0),.d (ia 2 g_ o1)]),(1,.obj 2 [.d (iD o2)])] 2 fun xx ss=>xx=.d (bD rr)/\ss=[(0,.obj 33 [.d (ia 1 iD o0),.d (ia 2 g_ o1)]),(1,.obj 2 [.d (iD o2)])]:=⟨@fun rr h=>by
 obtain⟨r,hj,rfl⟩:=az.1 h;intro C vs hCs hCk hinv hargs;simp only[AV.iK]at hargs;obtain⟨v0,r0,e0,h0,v1,r1,e1,h1,v2,r2,e2,h2,e3⟩:=hargs;subst e3 e2 e1;obtain rfl:vs=#[v0,v1,v2]:=cz (by simpa using e0);simp only[AV.ok]at h0 h1 h2;obtain⟨ps,rfl,k0⟩:=yB h0;simp only[D.iK]at k0;obtain⟨x0,s0,f0,_,g0,x1,s1,rfl,_,g1,x2,s2,rfl,_,g2,x3,s3,rfl,_,g3,x4,s4,rfl,_,g4,x5,s5,rfl,_,g5,rfl⟩:=k0;obtain rfl:ps=#[x0,x1,x2,x3,x4,x5]:=cz (by simpa using f0);have ob0:=hinv.obs 0;have ob1:=hinv.obs 1;rw[hCs]at ob0 ob1;have q0:sat [(0,Ob.obj 33 [.d (ia 1 iD o0),.d (ia 2 g_ o1)]),(1,.obj 2 [.d (iD o2)])] 0=Ob.obj 33 [.d (ia 1 iD o0),.d (ia 2 g_ o1)]:=rfl;have q1:sat [(0,Ob.obj 33 [.d (ia 1 iD o0),.d (ia 2 g_ o1)]),(1,.obj 2 [.d (iD o2)])] 1=Ob.obj 2 [.d (iD o2)]:=rfl;rw[q0]at ob0;rw[q1]at ob1;obtain⟨b0,vs0,B0,W0,ones0,pre0,rest0,z0,y0⟩:=ob0;obtain⟨b1,vs1,B1,W1,ones1,pre1,rest1,z1,y1⟩:=ob1;simp only[AV.iK,AV.ok]at y0 y1;obtain⟨sv0,t0,rfl,d0,sv1,t1,rfl,d1,rfl⟩:=y0;obtain⟨sv2,t2,rfl,d2,rfl⟩:=y1;have w0:v1=.pointer (some ⟨b0,0,none⟩):=by
  obtain⟨b,hb,rfl⟩:=h1;rw[B0]at hb;cases hb;rfl
 have w1:v2=.pointer (some ⟨b1,0,none⟩):=by
  obtain⟨b,hb,rfl⟩:=h2;rw[B1]at hb;cases hb;rfl
 subst w0 w1;have cell0:∀(b j:Nat)(vs:Array Value)(t:TypeId)(v:Value),C.w.heap[b]?=some (.cells vs t (0,0))->vs.toList[j]?=some v->C.w.cell? ⟨b,j,none⟩=some v:=fun b j vs t v hh hv=>by
  simp only[World.cell?,hh];simpa using hv
 have c00:=cell0 b0 0 _ _ sv0 W0 (by rw[z0];rfl);have c01:=cell0 b0 1 _ _ sv1 W0 (by rw[z0];rfl);have c10:=cell0 b1 0 _ _ sv2 W1 (by rw[z1];rfl);have o0':one sv0=true:=ones0 sv0 (by rw[z0];simp);have o1':one sv1=true:=ones0 sv1 (by rw[z0];simp);have hs:D.ok qd C.w (iA (o0,o1)) (.agg #[sv0,sv1]):=by
  show D.ok qd C.w (.agg [ia 1 iD o0,ia 2 g_ o1]) _;simp only[D.ok];exact⟨_,rfl,by simp only[D.iK];exact⟨_,_,rfl,o0',Pq d0,_,_,rfl,o1',Pq d1,rfl⟩⟩
 refine(Gi hj (hinv.GO.mono fun b o v hc _=>⟨hc,fun h=>h⟩) hs (Pq g1) (Pq g2) (Pq d2) c00 c01 c10).mono fun e w' ⟨hB,he⟩=>?_
 subst he;refine⟨_,_,C.β,C.s,rfl,hinv.grown hB.size (by simp only[yo,hB.os,hB.tape,hB.output]) (fun b hb=>hB.block b hb),?_,rfl,hCs⟩;exact ua rfl⟩
theorem Cv{sys:gJ}{a b:gv}{q0' q3' q4' q5':Value}{steps:Int}{rr}(hj:jY sys a b steps=some rr)
 {W:World} (hgw:GW qd W) {v0 va vb v2:Value} (h0:D.ok qd W (iA sys) v0) (ha:D.ok qd W ((ia 1 iD) a) va) (hb:D.ok qd W ((ia 1 iD) b) vb) (h2:D.ok qd W (iD steps) v2) (e:Addr) (he:W.cell? ⟨0,0,none⟩=some (.iface 242 (.pointer (some e)))):
 Calls Tryz.prog 38 #[v0,.agg #[q0',va,vb,q3',q4',q5'],v2] W fun r W'=>Below W.heap.size W W'/\
  ((rr.2.2=true/\r=.returned .nilIface)\/(rr.2.2=false/\∃pb,r=.returned (.iface 84 (.pointer (some ⟨pb,0,none⟩)))/\W.heap.size<=pb/\∀j v,(#[q0',va,vb,q3',q4',q5',.iface 242 (.pointer (some e))]:Array Value)[j]?=some v->W'.cell? ⟨pb,j,none⟩=some v)):=by
 obtain⟨vs0,rfl,h0'⟩:=yB h0;simp only[D.iK]at h0';obtain⟨s0,r0,e0,o0,d0,s1,r1,rfl,o1,d1,rfl⟩:=h0';obtain rfl:vs0=#[s0,s1]:=cz (by simpa using e0);have hcall:=fun(W1:World)(hg1:GW qd W1)(x0:D.ok qd W1 (iA sys) (.agg #[s0,s1]))(xa:D.ok qd W1 ((ia 1 iD) a) va)(xb:D.ok qd W1 ((ia 1 iD) b) vb)(x2:D.ok qd W1 (iD steps) v2)=>
  Ua (BZ.c hj) hg1 (vs:=#[.agg #[s0,s1],va,vb,v2]) ⟨_,_,rfl,x0,_,_,rfl,xa,_,_,rfl,xb,_,_,rfl,x2,rfl⟩
 let W2:World:=(W.alloc (.cells #[s0,s1] 33)).alloc (.cells #[q0',va,vb,q3',q4',q5'] 54);have hk:∀b o v,W.cell? ⟨b,o,none⟩=some v->W2.cell? ⟨b,o,none⟩=some v:=fun b o v hc=>by
  have hb:=jW hc;exact(bZ _ _ _ (by show b<(W.alloc _).heap.size;simp;omega)).trans ((bZ W _ _ hb).trans hc)
 have hB2:Below W.heap.size W W2:=⟨rfl,rfl,rfl,by simp[W2];omega,fun k hk=>by
  show((W.alloc _).alloc _).heap[k]?=_;rw[aS _ _ _ (by simp;omega),aS _ _ _ hk]⟩
 have hc2:=hcall W2 (hgw.mono fun b o v hc hn=>⟨hk b o v hc,hn⟩) (D.iY (fun b o v hc hn=>⟨hk b o v hc,hn⟩) _ _ h0) (D.iY (fun b o v hc hn=>⟨hk b o v hc,hn⟩) _ _ ha) (D.iY (fun b o v hc hn=>⟨hk b o v hc,hn⟩) _ _ hb) (D.iY (fun b o v hc hn=>⟨hk b o v hc,hn⟩) _ _ h2);have hc3:Calls Tryz.prog 48 #[.agg #[s0,s1],va,vb,v2] W2 fun r w3=>∃p1 l1 c1 p2 l2 c2 p3 l3 c3 p4 l4 c4,r=.returned (.tuple #[.agg #[.slice p1 l1 c1,.slice p2 l2 c2],.agg #[.slice p3 l3 c3,.slice p4 l4 c4],.bool rr.2.2])/\Below W2.heap.size W2 w3:=
  hc2.mono fun r w3 ⟨⟨us,hr,hus⟩,hbel⟩=>by
   obtain⟨p1,l1,c1,p2,l2,c2,p3,l3,c3,p4,l4,c4,rfl⟩:=PL hus;exact⟨p1,l1,c1,p2,l2,c2,p3,l3,c3,p4,l4,c4,hr,hbel⟩
 clear hc2 hcall;have hsz2:W2.heap.size=W.heap.size+2:=by simp[W2]
 have hnew:W2.heap[W.heap.size+1]?=some (.cells #[q0',va,vb,q3',q4',q5'] 54 (0,0)):=by
  have:=cL (W.alloc (.cells #[s0,s1] 33)) (.cells #[q0',va,vb,q3',q4',q5'] 54);simpa[W2]using this
 have keep2:∀{w3:World},Below W2.heap.size W2 w3->∀{v:Value}(j:Nat),(#[q0',va,vb,q3',q4',q5']:Array Value)[j]?=some v->∀o1 o2,((w3.alloc o1).alloc o2).cell? ⟨W.heap.size+1,j,none⟩=some v:=fun{w3} hb {v} j hv o1 o2=>by
  have h1:w3.heap[W.heap.size+1]?=W2.heap[W.heap.size+1]?:=hb.block _ gY;have h2:W.heap.size+1<w3.heap.size:=by have:=hb.size;omega
  rw[bJ ((aS _ _ _ (by simp;omega)).trans ((aS w3 _ _ h2).trans h1))];simp only[World.cell?,hnew];exact hv
 have keepe:∀{w3:World},Below W2.heap.size W2 w3->∀o1 o2,((w3.alloc o1).alloc o2).cell? ⟨0,0,none⟩=some (.iface 242 (.pointer (some e))):=fun{w3} hb o1 o2=>by
  have h0:=jW he;have h0':0<W.heap.size:=h0;have h1:w3.heap[0]?=W2.heap[0]?:=hb.block _ gY;have h2:0<w3.heap.size:=by have:=hb.size;omega
  rw[bJ ((aS _ _ _ (by simp)).trans ((aS w3 _ _ h2).trans h1))];exact hk 0 0 _ he
 cases hrr:rr.2.2 with
 |true=>
  rw[hrr]at hc3
  go_enter Tryz.func38,Tryz.ntmps38
  go_wp2_with (go_at_call 48;refine hc3.mono ?_;rintro r w3 ⟨p1,l1,c1,p2,l2,c2,p3,l3,c3,p4,l4,c4,rfl,hbel⟩)
  have hB3:Below W.heap.size W w3:=hB2.trans ⟨hbel.os,hbel.tape,hbel.output,hbel.size,fun k hk=>hbel.block k gY⟩;have hs3:=hbel.size
  go_ret
  exact⟨p_ (p_ hB3 gY _) (by simp;omega) _,.inl ⟨trivial,rfl⟩⟩
 |false=>
  rw[hrr]at hc3
  go_enter Tryz.func38,Tryz.ntmps38
  go_wp2_with (go_at_call 48;refine hc3.mono ?_;rintro r w3 ⟨p1,l1,c1,p2,l2,c2,p3,l3,c3,p4,l4,c4,rfl,hbel⟩;have q0:=keep2 hbel (v:=q0') 0 rfl;have q1:=keep2 hbel (v:=va) 1 rfl;have q2:=keep2 hbel (v:=vb) 2 rfl;have q3:=keep2 hbel (v:=q3') 3 rfl;have q4:=keep2 hbel (v:=q4') 4 rfl;have q5:=keep2 hbel (v:=q5') 5 rfl;have qe:=keepe hbel)
  have hB3:Below W.heap.size W w3:=hB2.trans ⟨hbel.os,hbel.tape,hbel.output,hbel.size,fun k hk=>hbel.block k gY⟩;have hs3:=hbel.size
  go_ret
  refine⟨p_ (p_ (p_ hB3 gY _) (by simp;omega) _) (by simp;omega) _,.inr ⟨trivial,_,rfl,gY,fun j v hv=>?_⟩⟩;have hq:=cL ((w3.alloc (.cells #[.slice p1 l1 c1,.slice p2 l2 c2] 50)).alloc (.cells #[.slice p3 l3 c3,.slice p4 l4 c4] 50)) (.cells #[q0',va,vb,q3',q4',q5',.iface 242 (.pointer (some e))] 88);rw[show((w3.alloc (.cells #[.slice p1 l1 c1,.slice p2 l2 c2] 50)).alloc (.cells #[.slice p3 l3 c3,.slice p4 l4 c4] 50)).heap.size=w3.heap.size+1+1 by simp]at hq;simp only[World.cell?,hq];exact hv
end Go.Proofs.YtjgbnaihpicpgaaGreatDoor
namespace Go.Proofs.YtjgbnaihpicpgaaGreatDoor
open Go.RowKit Go.Extern.Stop Go.Stop Go.Extern
set_option maxHeartbeats 4000000
set_option maxRecDepth 20000
theorem Wp(v:Value)(xT:TypeId)(w:World):(Instr.typeAssert (.iface 84 v) xT 84 true).run Tryz.prog w=.ok (.tuple #[v,.bool true]) w:=by rfl
theorem Ic(w:World):Calls Tryz.prog 46 #[.nilIface] w fun e w'=>e=.returned (.tuple #[.pointer none,.bool false])/\w'=w:=by
 go_enter Tryz.func46,Tryz.ntmps46
 go_wp2
 go_ret2
 exact⟨rfl,rfl⟩
theorem Ld(a:Addr)(w:World):Calls Tryz.prog 46 #[.iface 84 (.pointer (some a))] w fun e w'=>e=.returned (.tuple #[.pointer (some a),.bool true])/\∃o,w'=w.alloc o:=by
 have hta:=Wp;have hin:∀w1:World,∀q:Addr,Calls Tryz.prog 79 #[.iface 84 (.pointer (some a)),.pointer (some q)] w1 fun e w'=>e=.returned (.tuple #[.pointer (some a),.bool true])/\w'=w1:=fun w1 q=>by
  go_enter Tryz.func79,Tryz.ntmps79
  go_wp2
  refine wp_loop_rounds 1 ?_;rw[rounds_succ]
  go_wp2
  go_ret2
  exact⟨rfl,rfl⟩
 go_enter Tryz.func46,Tryz.ntmps46
 go_wp2_with (go_at_call 79;refine(hin _ _).mono ?_;rintro e w2 ⟨rfl,rfl⟩)
 go_ret2
 exact⟨rfl,_,rfl⟩
end Go.Proofs.YtjgbnaihpicpgaaGreatDoor
namespace Go.Proofs.YtjgbnaihpicpgaaGreatDoor
open Go mm Go.RowKit
set_option maxHeartbeats 4000000
set_option maxRecDepth 20000
theorem KX{O:mm.Own}{w:World}{x:D}{v:Value}(h:D.ok O w x v):D.ok qd w x v:=D.iY (fun b o v hc _=>⟨hc,fun h=>h⟩) _ _ h
theorem Cu{sys:gJ}{p:gw}{steps:Int}{rr}(hj:jY sys p.2.1 p.2.2.1 steps=some rr):
 iC Tryz.prog 38 [.d (.agg [ia 1 iD sys.1,ia 2 g_ sys.2]),.d (.agg [ia 1 iD p.1,ia 1 iD p.2.1,ia 1 iD p.2.2.1,iD p.2.2.2.1,iD p.2.2.2.2.1,iD p.2.2.2.2.2]),.d (iD steps)] [] 0 fun xx ss=>
  xx=(if rr.2.2=true then .d (.lit .nilIface)else .Ea 84 [ia 1 iD p.1,ia 1 iD p.2.1,ia 1 iD p.2.2.1,iD p.2.2.2.1,iD p.2.2.2.2.1,iD p.2.2.2.2.2,.any])/\ss=[]:=by
 intro C vs hCs hCk hinv hargs;simp only[AV.iK]at hargs;obtain⟨v0,r0,e0,h0,v1,r1,e1,h1,v2,r2,e2,h2,e3⟩:=hargs;subst e3 e2 e1;obtain rfl:vs=#[v0,v1,v2]:=cz (by simpa using e0);simp only[AV.ok]at h0 h1 h2;obtain⟨ps,rfl,k0⟩:=yB h1;simp only[D.iK]at k0;obtain⟨x0,s0,f0,q0,g0,x1,s1,rfl,q1,g1,x2,s2,rfl,q2,g2,x3,s3,rfl,q3,g3,x4,s4,rfl,q4,g4,x5,s5,rfl,q5,g5,rfl⟩:=k0;obtain rfl:ps=#[x0,x1,x2,x3,x4,x5]:=cz (by simpa using f0);have hgw:=hinv.GO;obtain⟨⟨e,he⟩,hno⟩:=hgw;refine(Cv hj (GW.mono (O:=qd) ⟨⟨e,he⟩,fun h=>h⟩ fun b o v hc _=>⟨hc,fun h=>h⟩) (KX h0) (KX g1) (KX g2) (KX h2) e he).mono fun r w' ⟨hB,hr⟩=>?_
 have hinv':Inv C C.β C.s w':=hinv.grown hB.size (by simp only[yo,hB.os,hB.tape,hB.output]) (fun b hb=>hB.block b hb);have up:∀{d:D}{v:Value},D.ok (C.ir C.β C.s) C.w d v->D.ok (C.ir C.β C.s) w' d v:=fun h=>D.iY (fun b o v hc hn=>⟨(bJ (hB.block b (jW hc))).trans hc,hn⟩) _ _ h
 rcases hr with⟨hrr,rfl⟩|⟨hrr,pb,rfl,hpb,hcell⟩
 ·exact⟨_,_,C.β,C.s,rfl,hinv',ua rfl,by rw[ah hrr],hCs⟩
 ·refine⟨_,_,C.β,C.s,rfl,hinv',?_,by rw[ak (by rw[hrr];simp)],hCs⟩;simp only[AV.ok];refine⟨pb,0,[x0,x1,x2,x3,x4,x5,.iface 242 (.pointer (some e))],rfl,fun j v hj=>⟨?_,?_,?_⟩,?_⟩
  ·rw[bU];exact hcell j v (by simpa using hj)
  ·intro hf;rcases hf with hf|hf
   ·have:=(hinv.low _ _ hf).1;omega
   ·have:=hinv.BR hf;omega
  ·have hm:=bO hj;simp only[bI,fh,or_false]at hm;rcases hm with rfl|rfl|rfl|rfl|rfl|rfl|rfl
   ·exact q0
   ·exact q1
   ·exact q2
   ·exact q3
   ·exact q4
   ·exact q5
   ·rfl
  ·simp only[D.iK];exact⟨_,_,rfl,q0,up g0,_,_,rfl,q1,up g1,_,_,rfl,q2,up g2,_,_,rfl,q3,up g3,_,_,rfl,q4,up g4,_,_,rfl,q5,up g5,_,_,rfl,rfl,rfl,rfl⟩
theorem AF:iC Tryz.prog 46 [.d (.lit .nilIface)] [] 0 fun xx ss=>xx=.mj [.d (.lit (.pointer none)),.d (bD false)]/\ss=[]:=by
 intro C vs hCs hCk hinv hargs;simp only[AV.iK,AV.ok,D.ok]at hargs;obtain⟨v0,r0,e0,⟨rfl,_⟩,e3⟩:=hargs;subst e3;obtain rfl:vs=#[.nilIface]:=cz (by simpa using e0);refine(Ic C.w).mono fun r w' ⟨hr,hw⟩=>?_
 subst hr hw;refine⟨_,_,C.β,C.s,rfl,hinv,?_,rfl,hCs⟩;simp only[AV.ok,AV.iK];exact⟨_,rfl,_,_,rfl,⟨rfl,rfl⟩,_,_,rfl,⟨rfl,rfl⟩,rfl⟩
theorem BA{cs:List D}:iC Tryz.prog 46 [.Ea 84 cs] [] 0 fun xx ss=>xx=.mj [.pv cs,.d (bD true)]/\ss=[]:=by
 intro C vs hCs hCk hinv hargs;simp only[AV.iK,AV.ok]at hargs;obtain⟨v0,r0,e0,⟨b,o,us,rfl,hc,hd⟩,e3⟩:=hargs;subst e3;obtain rfl:vs=#[.iface 84 (.pointer (some ⟨b,o,none⟩))]:=cz (by simpa using e0);refine(Ld ⟨b,o,none⟩ C.w).mono fun r w' ⟨hr,ob,hw⟩=>?_
 subst hr hw;have up:∀b o v,C.w.cell? ⟨b,o,none⟩=some v->(C.w.alloc ob).cell? ⟨b,o,none⟩=some v:=fun b o v h=>(bZ C.w _ _ (jW h)).trans h
 refine⟨_,_,C.β,C.s,rfl,hinv.grown (by simp) rfl (fun b hb=>aS C.w ob b hb),?_,rfl,hCs⟩;simp only[AV.ok,AV.iK];refine⟨_,rfl,_,_,rfl,⟨b,o,us,rfl,hc.mono fun b o v h hn=>⟨up b o v h,hn⟩,D.jy (fun b o v h hn=>⟨up b o v h,hn⟩) _ _ hd⟩,_,_,rfl,⟨rfl,rfl⟩,rfl⟩
end Go.Proofs.YtjgbnaihpicpgaaGreatDoor
