/- A part of the proof about FnJoinedPeaks (H4). -/
import Derived.Test.YtjgbnaihpicpgaaGreatDoorPf
import Derived.Test.YtjgbnaihpicpgaaGreatDoorPg
import Derived.Test.YtjgbnaihpicpgaaGreatDoorPh
set_option linter.all false
noncomputable section
namespace Go.Proofs.YtjgbnaihpicpgaaGreatDoor
open Go mm
attribute [local irreducible] rj vP uV mz lN nj kj Au Bm zm Bl yp tF lM nc AJ iS kN
set_option maxHeartbeats 4000000
set_option maxRecDepth 4000
def nP:ie:=
 (.seq (.h_ (sq 2 [.mv (.const (.slice none 0 0))])) (.seq (.seq (.h_ (sq 3 [mv 0,.uT false (t0 3)])) (.cond (t0 4) (.seq (.h_ (sq 2 [.mv (.const (.slice none 0 0))])) .ret) .skip)) (.seq (.h_ (sq 5 [.zM 5 2 1 [],mv 0,ap 7 2 1 8 5 6]++sq 2 [mv 7])) .ret)))
theorem sK:kH Tryz.prog 112 nP 8 [.tmp 2]:=mf Tryz.func112 Tryz.ntmps112
def ja(s:gv):Option gv:=
 K9 s (
  some []) (
  if(0+s.length)*8<=140737488355328 then
   some s
  else none)
instance B2{s:gv}:iR (ja s) fun rr=>iC Tryz.prog 112 [.d (ia 1 iD s)] [] 0 fun xx ss=>xx=.nr 1 900000 rr.length/\ss=[(900000,.kQ 2 1 rr.length (kP iD rr))]:=⟨@fun rr h=>by
 delta ja at h;refine sK.Io (gZ ?_);delta nP;refine iN ?_;have h1:=Gh h;refine tF.of (fun he=>?_) ?_
 ·replace h:=h1.1 (by simpa using he);clear h1;refine iN ?_;cases h;exact jw.trans ((jw.Zc 900000 2 1 (.nr 1 900000 0) (by simp[sat]) (by repeat' (first|exact TL.nil|refine TL.mj ?_|refine TL.Zw ?_|refine TL.agg ?_|refine PO.cons ?_ ?_|exact PO.nil|exact TL.refl)))) (jw.told El mT)
 ·replace h:=h1.2;clear h1;refine iN ?_;refine j_ h fun hp h=>?_
  cases h;exact jw.trans ((jw.move 5 900000 (ob:=.kQ 2 1 s.length (kP iD s)) gY gY gY rfl (by first|rfl|(simp;done)|(simp[sat,wA,sset,jz,zQ,xz,Ob.kV,Ob.kill,sk];done)))) (jw.told El mT)⟩
def YJ:ie:=
 (.seq (.h_ (sq 2 [.mv (.const (.slice none 0 0))])) (.seq (.h_ (sq 6 [mv 0,cf 112 [6]]++sq 3 [mv 7])) (.seq (.seq (.h_ (sq 8 [mv 3,ln 8,mi 0])) (.block 0 (.loop (.seq (.h_ (sq 11 [bn .lss 10 9])) (.seq (.cond (t0 11) .skip (.exit 0)) (.seq (.block 1 (.seq (.h_ (sq 12 [mv 10,ix 1 8 10,ld 13]++sq 4 [mv 12,mv 14])) (.seq (.h_ (sq 15 [mv 5,bi .lss 15 0])) (.cond (t0 16) (.h_ (sq 17 [mv 3,mv 4,mv 5,bi .sub 19 24,ix 1 17 18]++s0 (sr 1 21 20))) .skip)))) (.h_ (sq 22 [bi .add 10 1]++sq 10 [mv 22])))))))) (.seq (.h_ (sq 23 [mv 3]++sq 2 [mv 23])) .ret))))
theorem aau:kH Tryz.prog 94 YJ 24 [.tmp 2]:=mf Tryz.func94 Tryz.ntmps94
def sL(r:gv):(Int×gv)->Option ((Int×gv)⊕gv)
 |(v10,g7)=>
  if(decide (v10<(r.length:Int)))=true then
   if 0<=v10/\v10<(g7.length:Int)then
    if(decide ((g7.getD v10.toNat default)<0))=true then
     some (.inl ((IntKind.i64.wrap (v10+1)),(g7.set v10.toNat (IntKind.i64.wrap ((g7.getD v10.toNat default)-24)))))
    else
     some (.inl ((IntKind.i64.wrap (v10+1)),g7))
   else none
  else
   Option.map Sum.inr (
    some g7)
def mD(t:gv):Option gv:=
 (ja t).bind fun r=>
 iw (sL r) (0,r)
instance SQ{t:gv}:iR (mD t) fun rr=>jU Tryz.prog 94 [(ia 1 iD) t] ((ia 1 iD) rr):=⟨@fun rr h=>by
 delta mD at h;refine aau.T_ (gZ ?_);delta YJ;refine iN ?_;refine rB [] [(900000,7)] h fun r hr h=>?_
 refine kT h [3,4,5,8,10,11,12,13,14,15,16,17,18,19,20,21,22] (fun pp=>[(10,.d (iD pp.1)),(3,.nr 1 7 pp.2.length),(8,.nr 1 7 pp.2.length)]) (fun pp=>[(7,.kQ 2 1 pp.2.length (kP iD pp.2))]) ?_;rintro⟨v10,g7⟩ t1 h hb1;unfold sL at h;try dsimp only at h
 refine gZ (iN ?_);refine iF h fun hc1 h=>?_
 replace h:=iZ h hb1;cases h;exact⟨_,_,(jw.fz 7 iD rfl rr),El⟩⟩
def wh:ie:=
 (.seq (.h_ (sq 4 [bo 4 33 0]++sq 8 [.mv (.const (.pointer none)),mb false])) (.seq (.seq (.h_ (sq 11 [mv 1,mv 3,bn .eql 11 12,mv 13]++sg 14 true 15 [mv 2,bi .eql 15 0]++sq 17 [pa 14 16])) (.cond (t0 17) (.seq (.h_ (sq 8 [.mv (.const (.pointer none)),mb false])) .ret) .skip)) (.seq (.h_ (sq 18 [fa 0 4,la 1 18,.build [.sl 0 (some true) [],.sl 0 (some true) [],.sl 0 (some true) [],.sl 0 (some true) [],.sl 0 (some true) [],.sl 0 (some true) [],.sl 0 (some true) [],.sl 0 (some true) [],.sl 0 (some true) [],.sl 0 (some true) [],.sl 0 (some true) [],.sl 0 (some true) [],.sl 0 (some true) [],.sl 0 (some true) [],.sl 0 (some true) [],.sl 0 (some true) [],.sl 0 (some true) [],.sl 0 (some true) [],.sl 0 (some true) [],.sl 0 (some true) [],.sl 0 (some true) [],.sl 0 (some true) [],.sl 0 (some true) [],.sl 0 (some true) [],.sl 0 (some true) [],.sl 0 (some true) [],.sl 0 (some true) [],.sl 0 (some true) [],.sl 0 (some true) [],.sl 0 (some true) [],.sl 0 (some true) [],.sl 0 (some true) [],.sl 0 (some true) [],.sl 0 (some true) [],.sl 0 (some true) [],.sl 0 (some true) [],.sl 0 (some true) [],.sl 0 (some true) [],.sl 0 (some true) [],.sl 0 (some true) [],.sl 0 (some true) [],.sl 0 (some true) [],.sl 0 (some true) [],.sl 0 (some true) [],.sl 0 (some true) [],.sl 0 (some true) [],.sl 0 (some true) [],.sl 0 (some true) [],.sl 0 (some true) []] [(0,1,(t0 19))],bo 21 195 20]++sq 10 [mv 21])) (.seq (.ghost (.draw (sq 22 [mv 10,mv 10,fa 0 4,la 1 24,fa 1 4,ld 26,mv 1,ix 2 27 28,fa 0 29,ld 30,mv 2,cf 130 [25,31,32],fa 1 4,ld 34,mv 3,ix 2 35 36,fa 0 37,ld 38,cf 94 [39],cf 129 [23,33,40]]++sq 8 [mv 22,mv 41]) [[],[],[],[2],[],[4],[],[5,6],[7],[8],[],[3,9,10],[],[12],[],[13,14],[15],[16],[17,11],[1,11,18,18],[0,19,0],[19,20,0,1,2,3,4,5,6,7,8,9,10,11,12,13,14,15,16,17,18,19,20]])) .ret))))
theorem AO:kH Tryz.prog 92 wh 42 [.tmp 8,.tmp 9]:=mf Tryz.func92 Tryz.ntmps92
def je(sys:gJ)(over:Int)(at':Int)(under:Int):Option ((gv×gx)⊕Unit):=
 if(over==under)=true then
  if(at'==0)=true then
   some (.inr ())
  else
   if 0<=over/\over<(sys.2.length:Int)then
    (kg sys.1 ((sys.2.getD over.toNat default).1) at').bind fun r=>
    if 0<=under/\under<(sys.2.length:Int)then
     (mD ((sys.2.getD under.toNat default).1)).bind fun r_1=>
     (mE r r_1 sys.1 (List.replicate 48 [])).bind fun r_2=>
     if r_2.1=true then
      some (.inl (sys.1,r_2.2))
     else
      some (.inr ())
    else none
   else none
 else
  if 0<=over/\over<(sys.2.length:Int)then
   (kg sys.1 ((sys.2.getD over.toNat default).1) at').bind fun r_3=>
   if 0<=under/\under<(sys.2.length:Int)then
    (mD ((sys.2.getD under.toNat default).1)).bind fun r_4=>
    (mE r_3 r_4 sys.1 (List.replicate 48 [])).bind fun r_5=>
    if r_5.1=true then
     some (.inl (sys.1,r_5.2))
    else
     some (.inr ())
   else none
  else none
instance Ns{sys:gJ}{over:Int}{at':Int}{under:Int}:iR (je sys over at' under) fun rr=>iC Tryz.prog 92 [.d (.agg [ia 1 iD sys.1,ia 2 g_ sys.2]),.d (iD over),.d (iD at'),.d (iD under)] [] 0 fun xx ss=>xx=Sum.elim (fun rr:(gv×gx)=>.mj [.ptr 21 0,.d (bD true)]) (fun rr:Unit=>.mj [.ig,.d (bD false)]) rr/\ss=Sum.elim (fun rr:(gv×gx)=>[(21,.obj 195 ((.d (ia 1 iD rr.1))::List.map (aD (oI 1 iD)) rr.2))]) (fun rr:Unit=>[]) rr:=⟨@fun rr h=>by
 delta je at h;refine AO.lO (gZ ?_);delta wh;refine iN ?_;refine it h (fun hc1 h=>?_) fun hc1 h=>?_
 ·refine it h (fun hc2 h=>?_) fun hc2 h=>?_
  ·cases h;exact⟨[4],by simp,mT,mT⟩
  refine kj.of ((iL.V8 (s':=[(4,.obj 33 [.d (ia 1 iD sys.1),.d (ia 2 g_ sys.2)]),(21,.obj 195 ((.d (ia 1 iD sys.1))::List.map (aD (oI 1 iD)) (List.replicate 48 [])))]) (iS.refl _) mT)) ?_;refine iN ?_;refine j_ h fun hp h=>?_
  refine dC h fun r hr h=>?_
  refine j_ h fun hp h=>?_
  refine dC h fun r_1 hr_1 h=>?_
  refine UL [(0,21)] [] h fun r_2 hr_2 h=>?_
  refine jV (by kernel_rfl) (iN ?_);refine it h (fun hc3 h=>?_) fun hc3 h=>?_
  ·cases h;exact⟨[4],by simp,mT,mT⟩
  cases h;exact⟨[4,21],by simp,mT,mT⟩
 refine kj.of ((iL.V8 (s':=[(4,.obj 33 [.d (ia 1 iD sys.1),.d (ia 2 g_ sys.2)]),(21,.obj 195 ((.d (ia 1 iD sys.1))::List.map (aD (oI 1 iD)) (List.replicate 48 [])))]) (iS.refl _) mT)) ?_;refine iN ?_;refine j_ h fun hp h=>?_
 refine dC h fun r_3 hr_3 h=>?_
 refine j_ h fun hp h=>?_
 refine dC h fun r_4 hr_4 h=>?_
 refine UL [(0,21)] [] h fun r_5 hr_5 h=>?_
 refine jV (by kernel_rfl) (iN ?_);refine it h (fun hc4 h=>?_) fun hc4 h=>?_
 ·cases h;exact⟨[4],by simp,mT,mT⟩
 cases h;exact⟨[4,21],by simp,mT,mT⟩⟩
def YI:ie:=
 (.seq (.h_ (sq 6 [.mv (.const (.slice none 0 0)),mb false])) (.seq (.seq (.h_ (sq 11 [mv 2,ln 11,mi 0])) (.block 0 (.loop (.seq (.h_ (sq 14 [bn .lss 13 12])) (.seq (.cond (t0 14) .skip (.exit 0)) (.seq (.block 1 (.seq (.h_ (sq 15 [ix 1 11 13,ld 15]++sq 9 [mv 16])) (.seq (.seq (.h_ (sq 17 [mv 9,bi .lss 17 0,mv 18]++sg 19 true 20 [mv 0,mv 9,.bin .sub (i0 (-1)) (t0 21),.me (t0 20),fa 1 23,.xN 1 48 (t0 24) (t0 22),ld 25,.uT true (t0 26)]++sq 28 [pa 19 27])) (.cond (t0 28) (.seq (.h_ (sq 10 [mb false])) (.seq (.seq (.h_ (sq 30 [mv 0,mv 1,mv 0,mv 9,.bin .sub (i0 (-1)) (t0 33),.me (t0 32),fa 1 35,.xN 1 48 (t0 36) (t0 34),ld 37,cf 93 [30,31,38]]++sq 29 [mv 39]++sq 40 [ex 29 0,ex 29 1]++sq 1 [mv 40]++sq 10 [mv 41])) (.seq (.h_ (sq 42 [mv 10,nt 42])) (.cond (t0 43) (.seq (.h_ (sq 6 [.mv (.const (.slice none 0 0)),mb false])) .ret) .skip))) (.exit 1))) .skip)) (.seq (.seq (.h_ (sq 44 [mv 1,ln 44,bi .eql 45 60])) (.cond (t0 46) (.seq (.h_ (sq 6 [.mv (.const (.slice none 0 0)),mb false])) .ret) .skip)) (.h_ (sq 47 [mv 1,mv 9,.mP 49 2 1 [(t0 48)],ap 50 2 1 8 47 49]++sq 1 [mv 50])))))) (.h_ (sq 51 [bi .add 13 1]++sq 13 [mv 51])))))))) (.seq (.h_ (sq 52 [mv 1]++sq 6 [mv 52,mb true])) .ret)))
theorem aat:kH Tryz.prog 93 YI 53 [.tmp 6,.tmp 7]:=mf Tryz.func93 Tryz.ntmps93
def nQ(rec:gv->gv->gv->gx->Option (gv⊕gz))(t:gv)(u0:gv)(ul:gx):gH->Option (gH⊕(gv⊕gz))
 |(out_1,v13)=>
  if(decide (v13<(t.length:Int)))=true then
   if 0<=v13/\v13<(t.length:Int)then
    if(decide ((t.getD v13.toNat default)<0))=true then
     if 0<=(IntKind.i64.wrap ((-1)-(t.getD v13.toNat default)))/\(IntKind.i64.wrap ((-1)-(t.getD v13.toNat default)))<48/\(IntKind.i64.wrap ((-1)-(t.getD v13.toNat default)))<(ul.length:Int)then
      if(ul.getD (IntKind.i64.wrap ((-1)-(t.getD v13.toNat default))).toNat default).isEmpty=true then
       if((out_1.length:Int)==60)=true then
        Option.map Sum.inr (
         some (.inr ([],out_1)))
       else
        if(out_1.length+1)*8<=140737488355328 then
         some (.inl ((out_1++[(t.getD v13.toNat default)]),(IntKind.i64.wrap (v13+1))))
        else none
      else
       (rec out_1 (ul.getD (IntKind.i64.wrap ((-1)-(t.getD v13.toNat default))).toNat default) u0 ul).bind (Sum.elim (fun rt=>
        some (.inl (rt,(IntKind.i64.wrap (v13+1))))) (fun rf=>
        Option.map Sum.inr (
         some (.inr ([],rf.2)))))
     else none
    else
     if((out_1.length:Int)==60)=true then
      Option.map Sum.inr (
       some (.inr ([],out_1)))
     else
      if(out_1.length+1)*8<=140737488355328 then
       some (.inl ((out_1++[(t.getD v13.toNat default)]),(IntKind.i64.wrap (v13+1))))
      else none
   else none
  else
   Option.map Sum.inr (
    some (.inl out_1))
def jT:Nat->gv->gv->gv->gx->Option (gv⊕gz)
 |0,_,_,_,_=>none
 |fu+1,out,t,u0,ul=>
  iw (nQ (jT fu) t u0 ul) (out,0)
def nD(out:gv)(t:gv)(u0:gv)(ul:gx):Option (gv⊕gz):=Cx fun fu=>jT fu out t u0 ul
theorem tj:∀{fu:Nat}{out:gv}{t:gv}{u0:gv}{ul:gx}{rr:(gv⊕gz)}(h:jT fu out t u0 ul=some rr),iC Tryz.prog 93 [.ptr 0 0,.own 1 1 (List.map iD out),.d (ia 1 iD t)] [(0,.obj 195 ((.d (ia 1 iD u0))::List.map (aD (oI 1 iD)) ul)),(1,.tok 2 1 out.length)] 2 fun xx ss=>xx=Sum.elim (fun rr:gv=>.mj [.own 1 1 (List.map iD rr),.d (bD true)]) (fun rr:gz=>.mj [.d (ia 1 iD rr.1),.d (bD false)]) rr/\ss=Sum.elim (fun rr:gv=>[(0,.obj 195 ((.d (ia 1 iD u0))::List.map (aD (oI 1 iD)) ul)),(1,.tok 2 1 rr.length)]) (fun rr:gz=>[(0,.obj 195 ((.d (ia 1 iD u0))::List.map (aD (oI 1 iD)) ul)),(1,.tok 2 1 rr.2.length)]) rr
 |0,_,_,_,_,_,h=>by cases h
 |fu+1,out,t,u0,ul,rr,h=>by
  have ih:∀{out:gv}{t:gv}{u0:gv}{ul:gx},iR (jT fu out t u0 ul) fun rr=>iC Tryz.prog 93 [.ptr 0 0,.own 1 1 (List.map iD out),.d (ia 1 iD t)] [(0,.obj 195 ((.d (ia 1 iD u0))::List.map (aD (oI 1 iD)) ul)),(1,.tok 2 1 out.length)] 2 fun xx ss=>xx=Sum.elim (fun rr:gv=>.mj [.own 1 1 (List.map iD rr),.d (bD true)]) (fun rr:gz=>.mj [.d (ia 1 iD rr.1),.d (bD false)]) rr/\ss=Sum.elim (fun rr:gv=>[(0,.obj 195 ((.d (ia 1 iD u0))::List.map (aD (oI 1 iD)) ul)),(1,.tok 2 1 rr.length)]) (fun rr:gz=>[(0,.obj 195 ((.d (ia 1 iD u0))::List.map (aD (oI 1 iD)) ul)),(1,.tok 2 1 rr.2.length)]) rr:=⟨fun h=>tj h⟩
  unfold jT at h;refine aat.lO (gZ ?_);delta YI;refine iN ?_;refine kT h [1,6,7,9,10,13,14,15,16,17,18,19,20,21,22,23,24,25,26,27,28,29,30,31,32,33,34,35,36,37,38,39,40,41,42,43,44,45,46,47,48,49,50,51] (fun pp=>[(1,.own 1 1 (List.map iD pp.1)),(13,.d (iD pp.2))]) (fun pp=>[(0,.obj 195 ((.d (ia 1 iD u0))::List.map (aD (oI 1 iD)) ul)),(1,.tok 2 1 pp.1.length)]) ?_;rintro⟨out_1,v13⟩ t1 h hb1;unfold nQ at h;try dsimp only at h
  refine gZ (iN ?_);refine iT h fun hc1 h=>?_
  refine j_ h fun hp h=>?_
  refine it h (fun hc2 h=>?_) fun hc2 h=>?_
  ·refine j_ h fun hp h=>?_
   refine it h (fun hc3 h=>?_) fun hc3 h=>?_
   ·refine iF h fun hc4 h=>?_
    refine j_ h fun hp h=>?_
    cases h;refine⟨_,rfl,?_⟩;refine(iL.drop 49 gY).trans ?_;exact wk
   refine qa ?_;refine CA [(0,0),(1,1)] [] h (fun rt hrt h=>?_) fun rf hrf h=>?_
   ·exact mA
   exact mA
  refine iF h fun hc5 h=>?_
  refine j_ h fun hp h=>?_
  cases h;refine⟨_,rfl,?_⟩;refine(iL.drop 49 gY).trans ?_;exact wk
instance Db{out:gv}{t:gv}{u0:gv}{ul:gx}:iR (nD out t u0 ul) fun rr=>iC Tryz.prog 93 [.ptr 0 0,.own 1 1 (List.map iD out),.d (ia 1 iD t)] [(0,.obj 195 ((.d (ia 1 iD u0))::List.map (aD (oI 1 iD)) ul)),(1,.tok 2 1 out.length)] 2 fun xx ss=>xx=Sum.elim (fun rr:gv=>.mj [.own 1 1 (List.map iD rr),.d (bD true)]) (fun rr:gz=>.mj [.d (ia 1 iD rr.1),.d (bD false)]) rr/\ss=Sum.elim (fun rr:gv=>[(0,.obj 195 ((.d (ia 1 iD u0))::List.map (aD (oI 1 iD)) ul)),(1,.tok 2 1 rr.length)]) (fun rr:gz=>[(0,.obj 195 ((.d (ia 1 iD u0))::List.map (aD (oI 1 iD)) ul)),(1,.tok 2 1 rr.2.length)]) rr:=⟨fun h=>tj (t_ h).choose_spec⟩
def jb(t:gv)(u0:gv)(ul:gx):Option (gv⊕gz):=nD [] t u0 ul
instance Ei{t:gv}{u0:gv}{ul:gx}:iR (jb t u0 ul) fun rr=>iC Tryz.prog 93 [.ptr 0 0,.d (.sl 0 (some true) []),.d (ia 1 iD t)] [(0,.obj 195 ((.d (ia 1 iD u0))::List.map (aD (oI 1 iD)) ul))] 1 fun xx ss=>xx=Sum.elim (fun rr:gv=>.mj [.own 1 1 (List.map iD rr),.d (bD true)]) (fun rr:gz=>.mj [.d (ia 1 iD rr.1),.d (bD false)]) rr/\ss=Sum.elim (fun rr:gv=>[(0,.obj 195 ((.d (ia 1 iD u0))::List.map (aD (oI 1 iD)) ul)),(1,.tok 2 1 rr.length)]) (fun rr:gz=>[(0,.obj 195 ((.d (ia 1 iD u0))::List.map (aD (oI 1 iD)) ul)),(1,.tok 2 1 rr.2.length)]) rr:=⟨fun h=>iC.Vm 1 1 2 1 rfl rfl (iR.c (x:=nD [] t u0 ul) h)⟩
def YL:ie:=
 (.seq (.h_ (sq 6 [mi 0])) (.seq (.h_ (sq 10 [mv 0,mv 1,mv 2,.slc (t0 11) 1 none (some (t0 12)) none,.kA 93 [(t0 10),(.const (.slice none 0 0)),(t0 13)]]++sq 9 [mv 14]++sq 15 [ex 9 0,ex 9 1]++sq 7 [mv 15,mv 16])) (.seq (.h_ (sq 17 [mv 7,ln 17]++sq 6 [mv 18])) .ret)))
theorem aaw:kH Tryz.prog 96 YL 19 [.tmp 6]:=mf Tryz.func96 Tryz.ntmps96
def lA(t:gv)(at':Int)(u0:gv)(ul:gx):Option Int:=
 if 0<=at'/\at'<=(t.length:Int)then
  (jb (t.take at'.toNat) u0 ul).bind (Sum.elim (fun rt=>
   some (rt.length:Int)) (fun rf=>
   some (rf.1.length:Int)))
 else none
instance Fj{t:gv}{at':Int}{u0:gv}{ul:gx}:iR (lA t at' u0 ul) fun rr=>iC Tryz.prog 96 [.ptr 0 0,.d (ia 1 iD t),.d (iD at')] [(0,.obj 195 ((.d (ia 1 iD u0))::List.map (aD (oI 1 iD)) ul))] 1 fun xx ss=>xx=.d (iD rr)/\ss=[(0,.obj 195 ((.d (ia 1 iD u0))::List.map (aD (oI 1 iD)) ul))]:=⟨@fun rr h=>by
 delta lA at h;refine aaw.lO (gZ ?_);delta YL;refine iN ?_;refine j_ h fun hp h=>?_
 refine CA [(0,0)] [(1,14)] h (fun rt hrt h=>?_) fun rf hrf h=>?_
 ·cases h;exact⟨[14],by simp,mT,mT⟩
 cases h;exact⟨[14],by simp,mT,mT⟩⟩
def vI:ie:=
 (.seq (.h_ (sq 2 [.mv (.const (.slice none 0 0))])) (.seq (.h_ (sq 3 [.mv (.const (.slice none 0 0))])) (.seq (.h_ (sq 4 [.mv (.const (.slice none 0 0))])) (.seq (.seq (.h_ (sq 11 [mv 0,ln 11,mi 0])) (.block 0 (.loop (.seq (.h_ (sq 14 [bn .lss 13 12])) (.seq (.cond (t0 14) .skip (.exit 0)) (.seq (.block 1 (.seq (.h_ (sq 15 [ix 1 11 13,ld 15]++sq 6 [mv 16])) (.seq (.h_ (sq 17 [mv 6,cf 112 [17]]++sq 7 [mv 18])) (.seq (.seq (.h_ (sq 19 [mv 7,ln 19,mi 0])) (.block 2 (.loop (.seq (.h_ (sq 22 [bn .lss 21 20])) (.seq (.cond (t0 22) .skip (.exit 2)) (.seq (.block 3 (.seq (.h_ (sq 23 [mv 21,ix 1 19 21,ld 24]++sq 8 [mv 23,mv 25])) (.seq (.seq (.h_ (sq 26 [mv 9,bi .geq 26 0])) (.cond (t0 27) (.exit 3) .skip)) (.seq (.h_ (sq 28 [mv 3,mv 9,cf 128 [28,29]]++sq 10 [mv 30])) (.seq (.seq (.h_ (sq 31 [mv 10,bi .lss 31 0])) (.cond (t0 32) (.seq (.h_ (sq 33 [mv 3,ln 33]++sq 10 [mv 34])) (.h_ (sq 35 [mv 3,mv 9,.mP 37 2 1 [(t0 36)],ap 38 2 1 8 35 37]++sq 3 [mv 38]))) .skip)) (.h_ (sq 39 [mv 7,mv 8,mv 10,.bin .sub (i0 (-1)) (t0 41),ix 1 39 40]++s0 (sr 1 43 42)))))))) (.h_ (sq 44 [bi .add 21 1]++sq 21 [mv 44])))))))) (.ghost (.h_ (sq 45 [mv 4,mv 7,.mP 47 22 1 [(t0 46)],ap 48 22 1 24 45 47]++sq 4 [mv 48]))))))) (.h_ (sq 49 [bi .add 13 1]++sq 13 [mv 49])))))))) (.seq (.h_ (sq 50 [mv 4]++sq 2 [mv 50])) .ret)))))
theorem Ak:kH Tryz.prog 97 vI 51 [.tmp 2]:=mf Tryz.func97 Tryz.ntmps97
def nC(out:gx)(v13:Int)(r:gv):(gv×Int×gv)->Option ((gv×Int×gv)⊕((gv×gx×Int)⊕gx))
 |(seen_1,v21,g18)=>
  if(decide (v21<(r.length:Int)))=true then
   if 0<=v21/\v21<(g18.length:Int)then
    if(decide (0<=(g18.getD v21.toNat default)))=true then
     some (.inl (seen_1,(IntKind.i64.wrap (v21+1)),g18))
    else
     (jf seen_1 (g18.getD v21.toNat default)).bind fun r_1=>
     if(decide (r_1<0))=true then
      if(seen_1.length+1)*8<=140737488355328 then
       some (.inl ((seen_1++[(g18.getD v21.toNat default)]),(IntKind.i64.wrap (v21+1)),(g18.set v21.toNat (IntKind.i64.wrap ((-1)-(seen_1.length:Int))))))
      else none
     else
      some (.inl (seen_1,(IntKind.i64.wrap (v21+1)),(g18.set v21.toNat (IntKind.i64.wrap ((-1)-r_1)))))
   else none
  else
   Option.map Sum.inr (
    if(out.length+1)*24<=140737488355328 then
     some (.inl (seen_1,(out++[g18]),(IntKind.i64.wrap (v13+1))))
    else none)
def nB(ts:gx):(gv×gx×Int)->Option ((gv×gx×Int)⊕gx)
 |(seen,out,v13)=>
  if(decide (v13<(ts.length:Int)))=true then
   if 0<=v13/\v13<(ts.length:Int)then
    (ja (ts.getD v13.toNat default)).bind fun r=>
    iw (nC out v13 r) (seen,0,r)
   else none
  else
   Option.map Sum.inr (
    some out)
def pR(ts:gx):Option gx:=
 iw (nB ts) ([],[],0)
instance MJ{ts:gx}:iR (pR ts) fun rr=>jU Tryz.prog 97 [(ia 1 (ia 1 iD)) ts] ((ia 1 (ia 1 iD)) rr):=⟨@fun rr h=>by
 delta pR at h;refine Ak.jC (gZ ?_);delta vI;refine iN ?_;refine um h [3,4,6,7,8,9,10,13,14,15,16,17,18,19,20,21,22,23,24,25,26,27,28,29,30,31,32,33,34,35,36,37,38,39,40,41,42,43,44,45,46,47,48,49] (fun pp=>[(3,.own 1 38 (List.map iD pp.1)),(4,.own 1 48 (List.map (ia 1 iD) pp.2.1)),(13,.d (iD pp.2.2))]) (fun pp=>[(38,.tok 2 1 pp.1.length),(48,.tok 22 1 pp.2.1.length)]) ?_ ?_
 ·try dsimp only
  refine(iL.Mj 3 38 2 1 rfl rfl).trans ?_;refine(iL.Mj 4 48 22 1 rfl rfl).trans ?_;exact wk
 rintro⟨seen,out,v13⟩ t1 h hb1;unfold nB at h;try dsimp only at h
 refine gZ (iN ?_);refine iT h fun hc1 h=>?_
 refine j_ h fun hp h=>?_
 refine rB [] [(900000,18)] h fun r hr h=>?_
 refine kT h [3,7,8,9,10,19,21,22,23,24,25,26,27,28,29,30,31,32,33,34,35,36,37,38,39,40,41,42,43,44] (fun pp=>[(3,.own 1 38 (List.map iD pp.1)),(21,.d (iD pp.2.1)),(7,.nr 1 18 pp.2.2.length),(19,.nr 1 18 pp.2.2.length)]) (fun pp=>[(18,.kQ 2 1 pp.2.2.length (kP iD pp.2.2)),(38,.tok 2 1 pp.1.length),(48,.tok 22 1 out.length)]) ?_;rintro⟨seen_1,v21,g18⟩ t2 h hb2;unfold nC at h;try dsimp only at h
 refine gZ (iN ?_);refine it h (fun hc2 h=>?_) fun hc2 h=>?_
 ·refine j_ h fun hp h=>?_
  refine qa ?_;refine iF h fun hc3 h=>?_
  refine rC h fun r_1 hr_1 h=>?_
  refine iT h fun hc4 h=>?_
  refine j_ h fun hp h=>?_
  refine qa ?_;refine qa ?_;cases h;refine⟨_,rfl,?_⟩;refine(iL.drop 37 gY).trans ?_;exact wk
 replace h:=iZ h hb2;refine kj.of ((iL.fz 18 iD rfl g18)) ?_;refine aa0 ?_;refine iN ?_;refine j_ h fun hp h=>?_
 cases h;refine⟨_,rfl,?_⟩;refine(iL.drop 47 gY).trans ?_;exact wk⟩
def Yp:ie:=
 (.seq (.h_ (sq 4 [bo 4 33 0]++sq 8 [.alloc 8 54 [.sl 0 (some true) [],.sl 0 (some true) [],.sl 0 (some true) [],.lit (.int .i64 0),.lit (.int .i64 0),.lit (.int .i64 0)],mb false])) (.seq (.h_ (sq 22 [la 2 4,mv 1,mv 2,mv 3,cf 92 [22,23,24,25]]++sq 21 [mv 26]++sq 27 [ex 21 0,ex 21 1]++sq 10 [mv 27,mv 28])) (.seq (.seq (.h_ (sq 29 [mv 11,nt 29])) (.cond (t0 30) (.seq (.h_ (sq 31 [.build [.sl 0 (some true) [],.sl 0 (some true) [],.sl 0 (some true) [],.lit (.int .i64 0),.lit (.int .i64 0),.lit (.int .i64 0)] []]++s0 (sr 6 8 31)++sq 9 [mb false])) .ret) .skip)) (.seq (.h_ (sq 32 [fa 1 4,ld 32,mv 1,ix 2 33 34,la 2 35]++sq 12 [.alloc 12 81 [.sl 0 (some true) [],.sl 0 (some true) []]]++s0 (sr 2 12 36))) (.seq (.h_ (sq 38 [mv 10,fa 0 12,ld 39,.kA 93 [(t0 38),(.const (.slice none 0 0)),(t0 40)]]++sq 37 [mv 41]++sq 42 [ex 37 0,ex 37 1]++sq 13 [mv 42,mv 43])) (.seq (.h_ (sq 45 [mv 10,fa 1 12,ld 46,.kA 93 [(t0 45),(.const (.slice none 0 0)),(t0 47)]]++sq 44 [mv 48]++sq 49 [ex 44 0,ex 44 1]++sq 15 [mv 49,mv 50])) (.seq (.h_ (sq 52 [mv 10,fa 1 4,ld 53,mv 3,ix 2 54 55,fa 1 56,ld 57,cf 94 [58],.kA 93 [(t0 52),(.const (.slice none 0 0)),(t0 59)]]++sq 51 [mv 60]++sq 61 [ex 51 0,ex 51 1]++sq 17 [mv 61,mv 62])) (.seq (.seq (.h_ (sq 63 [mv 14,nt 63,mv 64]++sg 65 false 66 [mv 16,nt 66]++sq 68 [po 65 67,mv 68]++sg 69 false 70 [mv 18,nt 70]++sq 72 [po 69 71])) (.cond (t0 72) (.seq (.h_ (sq 73 [.build [.sl 0 (some true) [],.sl 0 (some true) [],.sl 0 (some true) [],.lit (.int .i64 0),.lit (.int .i64 0),.lit (.int .i64 0)] []]++s0 (sr 6 8 73)++sq 9 [mb false])) .ret) .skip)) (.seq (.draw (sq 75 [fa 0 4,la 1 75,mv 13,mv 10,fa 0 12,ld 79,mv 2,cf 96 [78,80,81],mv 17,cf 95 [76,77,82,83]]++sq 74 [mv 84]++sq 85 [ex 74 0,ex 74 1]++sq 19 [mv 85]++sq 11 [mv 86]) [[],[0],[],[],[],[4],[],[3,5,6],[],[1,2,7,8,7],[9],[10],[10],[11,9,0,1,2,3,4,5,6,7,8,9,10,11],[12,13,0,1,2,3,4,5,6,7,8,9,10,11,12,13]]) (.seq (.seq (.h_ (sq 87 [mv 11,nt 87])) (.cond (t0 88) (.seq (.h_ (sq 89 [.build [.sl 0 (some true) [],.sl 0 (some true) [],.sl 0 (some true) [],.lit (.int .i64 0),.lit (.int .i64 0),.lit (.int .i64 0)] []]++s0 (sr 6 8 89)++sq 9 [mb false])) .ret) .skip)) (.seq (.h_ (sq 90 [mv 13,mv 19,mv 15,.mP 93 22 1 [(t0 90),(t0 91),(t0 92)],cf 97 [93]]++sq 20 [mv 94])) (.seq (.seq (.h_ (sq 95 [mv 20,.uE 1 (t0 95) (i0 0),ld 96,cf 98 [97],bi .lss 98 (-24)])) (.cond (t0 99) (.seq (.h_ (sq 100 [.build [.sl 0 (some true) [],.sl 0 (some true) [],.sl 0 (some true) [],.lit (.int .i64 0),.lit (.int .i64 0),.lit (.int .i64 0)] []]++s0 (sr 6 8 100)++sq 9 [mb false])) .ret) .skip)) (.seq (.draw (sq 101 [mv 20,.uE 1 (t0 101) (i0 0),ld 102,mv 20,.uE 1 (t0 104) (i0 1),ld 105,mv 20,.uE 1 (t0 107) (i0 2),ld 108,mv 2,mv 3,mv 1,.build [.sl 0 (some true) [],.sl 0 (some true) [],.sl 0 (some true) [],.lit (.int .i64 0),.lit (.int .i64 0),.lit (.int .i64 0)] [(0,1,(t0 103)),(1,1,(t0 106)),(2,1,(t0 109)),(3,1,(t0 110)),(4,1,(t0 111)),(5,1,(t0 112))]]++s0 (sr 6 8 113)++sq 9 [mb true]) [[],[0],[1],[],[3],[4],[],[6],[7],[],[],[],[2,5,8,9,10,11],[12,0,1,2,3,4,5,6,7,8,9,10,11,12],[13,0,1,2,3,4,5,6,7,8,9,10,11,12,13]]) .ret)))))))))))))
theorem Z_:kH Tryz.prog 67 Yp 114 [.cell 8 6 true,.tmp 9]:=mf Tryz.func67 Tryz.ntmps67
def mZ(sys:gJ)(over:Int)(at':Int)(under:Int):Option (gw×Bool):=
 (je sys over at' under).bind (Sum.elim (fun rt=>
  if 0<=over/\over<(sys.2.length:Int)then
   (jb ((sys.2.getD over.toNat default).1) rt.1 rt.2).bind (Sum.elim (fun rt_1=>
    (jb ((sys.2.getD over.toNat default).2) rt.1 rt.2).bind (Sum.elim (fun rt_2=>
     if 0<=under/\under<(sys.2.length:Int)then
      (mD ((sys.2.getD under.toNat default).2)).bind fun r=>
      (jb r rt.1 rt.2).bind (Sum.elim (fun rt_3=>
       (lA ((sys.2.getD over.toNat default).1) at' rt.1 rt.2).bind fun r_1=>
       (qv sys.1 rt_1 r_1 rt_3).bind fun r_2=>
       if r_2.2=true then
        (pR [rt_1,r_2.1,rt_2]).bind fun r_3=>
        if 0<=0/\0<(r_3.length:Int)then
         (jG (r_3.getD 0 default)).bind fun r_4=>
         if(decide (r_4<(-24)))=true then
          some (([],[],[],0,0,0),false)
         else
          if 0<=1/\1<(r_3.length:Int)then
           if 0<=2/\2<(r_3.length:Int)then
            some (((r_3.getD 0 default),(r_3.getD 1 default),(r_3.getD 2 default),at',under,over),true)
           else none
          else none
        else none
       else
        some (([],[],[],0,0,0),false)) (fun rf=>
       some (([],[],[],0,0,0),false)))
     else none) (fun rf_1=>
     if 0<=under/\under<(sys.2.length:Int)then
      (mD ((sys.2.getD under.toNat default).2)).bind fun r_5=>
      (jb r_5 rt.1 rt.2).bind (Sum.elim (fun rt_4=>
       some (([],[],[],0,0,0),false)) (fun rf_2=>
       some (([],[],[],0,0,0),false)))
     else none))) (fun rf_3=>
    (jb ((sys.2.getD over.toNat default).2) rt.1 rt.2).bind (Sum.elim (fun rt_5=>
     if 0<=under/\under<(sys.2.length:Int)then
      (mD ((sys.2.getD under.toNat default).2)).bind fun r_6=>
      (jb r_6 rt.1 rt.2).bind (Sum.elim (fun rt_6=>
       some (([],[],[],0,0,0),false)) (fun rf_4=>
       some (([],[],[],0,0,0),false)))
     else none) (fun rf_5=>
     if 0<=under/\under<(sys.2.length:Int)then
      (mD ((sys.2.getD under.toNat default).2)).bind fun r_7=>
      (jb r_7 rt.1 rt.2).bind (Sum.elim (fun rt_7=>
       some (([],[],[],0,0,0),false)) (fun rf_6=>
       some (([],[],[],0,0,0),false)))
     else none))))
  else none) (fun rf_7=>
  some (([],[],[],0,0,0),false)))
instance P0{sys:gJ}{over:Int}{at':Int}{under:Int}:iR (mZ sys over at' under) fun rr=>oH Tryz.prog 67 [iA sys,iD over,iD at',iD under] [jv rr.1,bD rr.2]:=⟨@fun rr h=>by
 delta mZ at h;refine Z_.pg (gZ ?_);delta Yp;refine iN ?_;refine CA [] [(21,26)] h (fun rt hrt h=>?_) fun rf_7 hrf_7 h=>?_
 ·refine j_ h fun hp h=>?_
  refine CA [(0,26)] [(1,41)] h (fun rt_1 hrt_1 h=>?_) fun rf_3 hrf_3 h=>?_
  ·refine CA [(0,26)] [(1,48)] h (fun rt_2 hrt_2 h=>?_) fun rf_1 hrf_1 h=>?_
   ·refine j_ h fun hp h=>?_
    refine rC h fun r hr h=>?_
    refine CA [(0,26)] [(1,60)] h (fun rt_3 hrt_3 h=>?_) fun rf hrf h=>?_
    ·refine UL [(0,26)] [] h fun r_1 hr_1 h=>?_
     exact mA
    exact mA
   refine j_ h fun hp h=>?_
   refine rC h fun r_5 hr_5 h=>?_
   refine CA [(0,26)] [(1,60)] h (fun rt_4 hrt_4 h=>?_) fun rf_2 hrf_2 h=>?_
   ·exact mA
   exact mA
  refine CA [(0,26)] [(1,48)] h (fun rt_5 hrt_5 h=>?_) fun rf_5 hrf_5 h=>?_
  ·refine j_ h fun hp h=>?_
   refine rC h fun r_6 hr_6 h=>?_
   refine CA [(0,26)] [(1,60)] h (fun rt_6 hrt_6 h=>?_) fun rf_4 hrf_4 h=>?_
   ·exact mA
   exact mA
  refine j_ h fun hp h=>?_
  refine rC h fun r_7 hr_7 h=>?_
  refine CA [(0,26)] [(1,60)] h (fun rt_7 hrt_7 h=>?_) fun rf_6 hrf_6 h=>?_
  ·exact mA
  exact mA
 exact mA⟩
end Go.Proofs.YtjgbnaihpicpgaaGreatDoor
