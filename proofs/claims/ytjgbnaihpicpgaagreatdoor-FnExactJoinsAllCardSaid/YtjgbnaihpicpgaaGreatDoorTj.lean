/- A part of the proof about FnExactJoinsAll (H4, MT, H5). -/
import Derived.Test.YtjgbnaihpicpgaaGreatDoorTc
import Derived.Test.YtjgbnaihpicpgaaGreatDoorTf
import Derived.Test.YtjgbnaihpicpgaaGreatDoorTg
import Derived.Test.YtjgbnaihpicpgaaGreatDoorTh
set_option linter.all false
noncomputable section
namespace Go.Proofs.YtjgbnaihpicpgaaGreatDoor
open Go lY
attribute [local irreducible] rA vi uM lW lP ng jX Ak Bj yP Bi yF tw lK nO A7 iG kj
set_option maxHeartbeats 4000000
set_option maxRecDepth 4000
def ni:gV:=
 (.seq (.gQ (sq 2 [.mv (.const (.slice none 0 0))])) (.seq (.seq (.gQ (sq 3 [mv 0,.tN false (t0 3)])) (.cond (t0 4) (.seq (.gQ (sq 2 [.mv (.const (.slice none 0 0))])) .ret) .skip)) (.seq (.gQ (sq 5 [.zC 5 2 1 [],mv 0,ap 7 2 1 8 5 6]++sq 2 [mv 7])) .ret)))
theorem rE:jV Tryz.prog 112 ni 8 [.tmp 2]:=mf Tryz.func112 Tryz.ntmps112
def iK(s:gk):Option gk:=
 J1 s (
  some []) (
  if(0+s.length)*8<=140737488355328 then
   some s
  else none)
instance A2{s:gk}:iH (iK s) fun rr=>h_ Tryz.prog 112 [.d (gS 1 iD s)] [] 0 fun xx ss=>xx=.kL 1 900000 rr.length/\ss=[(900000,.kO 2 1 rr.length (lq iD rr))]:=⟨@fun rr h=>by
 delta iK at h;refine rE.Ay (gO ?_);delta ni;refine iE ?_;have h1:=Fl h;refine tw.of (fun he=>?_) ?_
 ·replace h:=h1.1 (by simpa using he);clear h1;refine iE ?_;cases h;exact iV.trans ((iV.X6 900000 2 1 (.kL 1 900000 0) (by simp[sat]) (by repeat' (first|exact TL.nil|refine TL.lE ?_|refine TL.Yl ?_|refine TL.agg ?_|refine OD.cons ?_ ?_|exact OD.nil|exact TL.refl)))) (iV.told Eu oG)
 ·replace h:=h1.2;clear h1;refine iE ?_;refine jG h fun hp h=>?_
  cases h;exact iV.trans ((iV.move 5 900000 (ob:=.kO 2 1 s.length (lq iD s)) gN gN gN rfl (by first|rfl|(simp;done)|(simp[sat,tO,sset,iW,AW,Be,Ob.jW,Ob.kill,lu];done)))) (iV.told Eu oG)⟩
def Xt:gV:=
 (.seq (.gQ (sq 2 [.mv (.const (.slice none 0 0))])) (.seq (.gQ (sq 6 [mv 0,cf 112 [6]]++sq 3 [mv 7])) (.seq (.seq (.gQ (sq 8 [mv 3,ln 8,mi 0])) (.block 0 (.loop (.seq (.gQ (sq 11 [bn .lss 10 9])) (.seq (.cond (t0 11) .skip (.exit 0)) (.seq (.block 1 (.seq (.gQ (sq 12 [mv 10,ix 1 8 10,ld 13]++sq 4 [mv 12,mv 14])) (.seq (.gQ (sq 15 [mv 5,bi .lss 15 0])) (.cond (t0 16) (.gQ (sq 17 [mv 3,mv 4,mv 5,bi .sub 19 24,ix 1 17 18]++s0 (sr 1 21 20))) .skip)))) (.gQ (sq 22 [bi .add 10 1]++sq 10 [mv 22])))))))) (.seq (.gQ (sq 23 [mv 3]++sq 2 [mv 23])) .ret))))
theorem Za:jV Tryz.prog 94 Xt 24 [.tmp 2]:=mf Tryz.func94 Tryz.ntmps94
def rH(r:gk):(Int×gk)->Option ((Int×gk)⊕gk)
 |(v10,g7)=>
  if(decide (v10<(r.length:Int)))=true then
   if 0<=v10/\v10<(g7.length:Int)then
    if(decide ((g7.getD v10.toNat default)<0))=true then
     some (.inl ((IntKind.i64.wrap (v10+1)),(g7.set v10.toNat (IntKind.i64.wrap ((g7.getD v10.toNat default)-24)))))
    else
     some (.inl ((IntKind.i64.wrap (v10+1)),g7))
   else none
  else
   Option.map Sum.inr (
    some g7)
def lH(t:gk):Option gk:=
 (iK t).bind fun r=>
 g_ (rH r) (0,r)
instance Rz{t:gk}:iH (lH t) fun rr=>jF Tryz.prog 94 [(gS 1 iD) t] ((gS 1 iD) rr):=⟨@fun rr h=>by
 delta lH at h;refine Za.S3 (gO ?_);delta Xt;refine iE ?_;refine vf [] [(900000,7)] h fun r hr h=>?_
 refine kT h [3,4,5,8,10,11,12,13,14,15,16,17,18,19,20,21,22] (fun pp=>[(10,.d (iD pp.1)),(3,.kL 1 7 pp.2.length),(8,.kL 1 7 pp.2.length)]) (fun pp=>[(7,.kO 2 1 pp.2.length (lq iD pp.2))]) ?_;rintro⟨v10,g7⟩ t1 h hb1;unfold rH at h;try dsimp only at h
 refine gO (iE ?_);refine iF h fun hc1 h=>?_
 replace h:=jg h hb1;cases h;exact⟨_,_,(iV.fz 7 iD rfl rr),Eu⟩⟩
def u_:gV:=
 (.seq (.gQ (sq 4 [bo 4 33 0]++sq 8 [.mv (.const (.pointer none)),mb false])) (.seq (.seq (.gQ (sq 11 [mv 1,mv 3,bn .eql 11 12,mv 13]++sg 14 true 15 [mv 2,bi .eql 15 0]++sq 17 [pa 14 16])) (.cond (t0 17) (.seq (.gQ (sq 8 [.mv (.const (.pointer none)),mb false])) .ret) .skip)) (.seq (.gQ (sq 18 [fa 0 4,la 1 18,.build [.sl 0 (some true) [],.sl 0 (some true) [],.sl 0 (some true) [],.sl 0 (some true) [],.sl 0 (some true) [],.sl 0 (some true) [],.sl 0 (some true) [],.sl 0 (some true) [],.sl 0 (some true) [],.sl 0 (some true) [],.sl 0 (some true) [],.sl 0 (some true) [],.sl 0 (some true) [],.sl 0 (some true) [],.sl 0 (some true) [],.sl 0 (some true) [],.sl 0 (some true) [],.sl 0 (some true) [],.sl 0 (some true) [],.sl 0 (some true) [],.sl 0 (some true) [],.sl 0 (some true) [],.sl 0 (some true) [],.sl 0 (some true) [],.sl 0 (some true) [],.sl 0 (some true) [],.sl 0 (some true) [],.sl 0 (some true) [],.sl 0 (some true) [],.sl 0 (some true) [],.sl 0 (some true) [],.sl 0 (some true) [],.sl 0 (some true) [],.sl 0 (some true) [],.sl 0 (some true) [],.sl 0 (some true) [],.sl 0 (some true) [],.sl 0 (some true) [],.sl 0 (some true) [],.sl 0 (some true) [],.sl 0 (some true) [],.sl 0 (some true) [],.sl 0 (some true) [],.sl 0 (some true) [],.sl 0 (some true) [],.sl 0 (some true) [],.sl 0 (some true) [],.sl 0 (some true) [],.sl 0 (some true) []] [(0,1,(t0 19))],bo 21 195 20]++sq 10 [mv 21])) (.seq (.ghost (.draw (sq 22 [mv 10,mv 10,fa 0 4,la 1 24,fa 1 4,ld 26,mv 1,ix 2 27 28,fa 0 29,ld 30,mv 2,cf 130 [25,31,32],fa 1 4,ld 34,mv 3,ix 2 35 36,fa 0 37,ld 38,cf 94 [39],cf 129 [23,33,40]]++sq 8 [mv 22,mv 41]) [[],[],[],[2],[],[4],[],[5,6],[7],[8],[],[3,9,10],[],[12],[],[13,14],[15],[16],[17,11],[1,11,18,18],[0,19,0],[19,20,0,1,2,3,4,5,6,7,8,9,10,11,12,13,14,15,16,17,18,19,20]])) .ret))))
theorem zI:jV Tryz.prog 92 u_ 42 [.tmp 8,.tmp 9]:=mf Tryz.func92 Tryz.ntmps92
def iQ(sys:gC)(over:Int)(at':Int)(under:Int):Option ((gk×gp)⊕Unit):=
 if(over==under)=true then
  if(at'==0)=true then
   some (.inr ())
  else
   if 0<=over/\over<(sys.2.length:Int)then
    (jH sys.1 ((sys.2.getD over.toNat default).1) at').bind fun r=>
    if 0<=under/\under<(sys.2.length:Int)then
     (lH ((sys.2.getD under.toNat default).1)).bind fun r_1=>
     (lI r r_1 sys.1 (List.replicate 48 [])).bind fun r_2=>
     if r_2.1=true then
      some (.inl (sys.1,r_2.2))
     else
      some (.inr ())
    else none
   else none
 else
  if 0<=over/\over<(sys.2.length:Int)then
   (jH sys.1 ((sys.2.getD over.toNat default).1) at').bind fun r_3=>
   if 0<=under/\under<(sys.2.length:Int)then
    (lH ((sys.2.getD under.toNat default).1)).bind fun r_4=>
    (lI r_3 r_4 sys.1 (List.replicate 48 [])).bind fun r_5=>
    if r_5.1=true then
     some (.inl (sys.1,r_5.2))
    else
     some (.inr ())
   else none
  else none
instance Md{sys:gC}{over:Int}{at':Int}{under:Int}:iH (iQ sys over at' under) fun rr=>h_ Tryz.prog 92 [.d (.agg [gS 1 iD sys.1,gS 2 gP sys.2]),.d (iD over),.d (iD at'),.d (iD under)] [] 0 fun xx ss=>xx=Sum.elim (fun rr:(gk×gp)=>.lE [.ptr 21 0,.d (bD true)]) (fun rr:Unit=>.lE [.gW,.d (bD false)]) rr/\ss=Sum.elim (fun rr:(gk×gp)=>[(21,.obj 195 ((.d (gS 1 iD rr.1))::List.map (aD (nZ 1 iD)) rr.2))]) (fun rr:Unit=>[]) rr:=⟨@fun rr h=>by
 delta iQ at h;refine zI.mm (gO ?_);delta u_;refine iE ?_;refine it h (fun hc1 h=>?_) fun hc1 h=>?_
 ·refine it h (fun hc2 h=>?_) fun hc2 h=>?_
  ·cases h;exact⟨[4],by simp,oG,oG⟩
  refine jX.of ((ij.U5 (s':=[(4,.obj 33 [.d (gS 1 iD sys.1),.d (gS 2 gP sys.2)]),(21,.obj 195 ((.d (gS 1 iD sys.1))::List.map (aD (nZ 1 iD)) (List.replicate 48 [])))]) (iG.refl _) oG)) ?_;refine iE ?_;refine jG h fun hp h=>?_
  refine dC h fun r hr h=>?_
  refine jG h fun hp h=>?_
  refine dC h fun r_1 hr_1 h=>?_
  refine PM [(0,21)] [] h fun r_2 hr_2 h=>?_
  refine jy (by kernel_rfl) (iE ?_);refine it h (fun hc3 h=>?_) fun hc3 h=>?_
  ·cases h;exact⟨[4],by simp,oG,oG⟩
  cases h;exact⟨[4,21],by simp,oG,oG⟩
 refine jX.of ((ij.U5 (s':=[(4,.obj 33 [.d (gS 1 iD sys.1),.d (gS 2 gP sys.2)]),(21,.obj 195 ((.d (gS 1 iD sys.1))::List.map (aD (nZ 1 iD)) (List.replicate 48 [])))]) (iG.refl _) oG)) ?_;refine iE ?_;refine jG h fun hp h=>?_
 refine dC h fun r_3 hr_3 h=>?_
 refine jG h fun hp h=>?_
 refine dC h fun r_4 hr_4 h=>?_
 refine PM [(0,21)] [] h fun r_5 hr_5 h=>?_
 refine jy (by kernel_rfl) (iE ?_);refine it h (fun hc4 h=>?_) fun hc4 h=>?_
 ·cases h;exact⟨[4],by simp,oG,oG⟩
 cases h;exact⟨[4,21],by simp,oG,oG⟩⟩
def Xs:gV:=
 (.seq (.gQ (sq 6 [.mv (.const (.slice none 0 0)),mb false])) (.seq (.seq (.gQ (sq 11 [mv 2,ln 11,mi 0])) (.block 0 (.loop (.seq (.gQ (sq 14 [bn .lss 13 12])) (.seq (.cond (t0 14) .skip (.exit 0)) (.seq (.block 1 (.seq (.gQ (sq 15 [ix 1 11 13,ld 15]++sq 9 [mv 16])) (.seq (.seq (.gQ (sq 17 [mv 9,bi .lss 17 0,mv 18]++sg 19 true 20 [mv 0,mv 9,.bin .sub (i0 (-1)) (t0 21),.nV (t0 20),fa 1 23,.wH 1 48 (t0 24) (t0 22),ld 25,.tN true (t0 26)]++sq 28 [pa 19 27])) (.cond (t0 28) (.seq (.gQ (sq 10 [mb false])) (.seq (.seq (.gQ (sq 30 [mv 0,mv 1,mv 0,mv 9,.bin .sub (i0 (-1)) (t0 33),.nV (t0 32),fa 1 35,.wH 1 48 (t0 36) (t0 34),ld 37,cf 93 [30,31,38]]++sq 29 [mv 39]++sq 40 [ex 29 0,ex 29 1]++sq 1 [mv 40]++sq 10 [mv 41])) (.seq (.gQ (sq 42 [mv 10,nt 42])) (.cond (t0 43) (.seq (.gQ (sq 6 [.mv (.const (.slice none 0 0)),mb false])) .ret) .skip))) (.exit 1))) .skip)) (.seq (.seq (.gQ (sq 44 [mv 1,ln 44,bi .eql 45 60])) (.cond (t0 46) (.seq (.gQ (sq 6 [.mv (.const (.slice none 0 0)),mb false])) .ret) .skip)) (.gQ (sq 47 [mv 1,mv 9,.pF 49 2 1 [(t0 48)],ap 50 2 1 8 47 49]++sq 1 [mv 50])))))) (.gQ (sq 51 [bi .add 13 1]++sq 13 [mv 51])))))))) (.seq (.gQ (sq 52 [mv 1]++sq 6 [mv 52,mb true])) .ret)))
theorem Y_:jV Tryz.prog 93 Xs 53 [.tmp 6,.tmp 7]:=mf Tryz.func93 Tryz.ntmps93
def nj(rec:gk->gk->gk->gp->Option (gk⊕gm))(t:gk)(u0:gk)(ul:gp):gH->Option (gH⊕(gk⊕gm))
 |(out_1,v13)=>
  if(decide (v13<(t.length:Int)))=true then
   if 0<=v13/\v13<(t.length:Int)then
    if(decide ((t.getD v13.toNat default)<0))=true then
     if 0<=(IntKind.i64.wrap ((-1)-(t.getD v13.toNat default)))/\(IntKind.i64.wrap ((-1)-(t.getD v13.toNat default)))<48/\(IntKind.i64.wrap ((-1)-(t.getD v13.toNat default)))<(ul.length:Int)then
      if(ul.getD (IntKind.i64.wrap ((-1)-(t.getD v13.toNat default))).toNat default).isEmpty=true then
       if((out_1.length:Int)==60)=true then
        Option.map Sum.inr (
         some (.inr ([],out_1)))
       else
        if(out_1.length+1)*8<=140737488355328 then
         some (.inl ((out_1++[(t.getD v13.toNat default)]),(IntKind.i64.wrap (v13+1))))
        else none
      else
       (rec out_1 (ul.getD (IntKind.i64.wrap ((-1)-(t.getD v13.toNat default))).toNat default) u0 ul).bind (Sum.elim (fun rt=>
        some (.inl (rt,(IntKind.i64.wrap (v13+1))))) (fun rf=>
        Option.map Sum.inr (
         some (.inr ([],rf.2)))))
     else none
    else
     if((out_1.length:Int)==60)=true then
      Option.map Sum.inr (
       some (.inr ([],out_1)))
     else
      if(out_1.length+1)*8<=140737488355328 then
       some (.inl ((out_1++[(t.getD v13.toNat default)]),(IntKind.i64.wrap (v13+1))))
      else none
   else none
  else
   Option.map Sum.inr (
    some (.inl out_1))
def jE:Nat->gk->gk->gk->gp->Option (gk⊕gm)
 |0,_,_,_,_=>none
 |fu+1,out,t,u0,ul=>
  g_ (nj (jE fu) t u0 ul) (out,0)
def mM(out:gk)(t:gk)(u0:gk)(ul:gp):Option (gk⊕gm):=Dr fun fu=>jE fu out t u0 ul
theorem rZ:∀{fu:Nat}{out:gk}{t:gk}{u0:gk}{ul:gp}{rr:(gk⊕gm)}(h:jE fu out t u0 ul=some rr),h_ Tryz.prog 93 [.ptr 0 0,.own 1 1 (List.map iD out),.d (gS 1 iD t)] [(0,.obj 195 ((.d (gS 1 iD u0))::List.map (aD (nZ 1 iD)) ul)),(1,.tok 2 1 out.length)] 2 fun xx ss=>xx=Sum.elim (fun rr:gk=>.lE [.own 1 1 (List.map iD rr),.d (bD true)]) (fun rr:gm=>.lE [.d (gS 1 iD rr.1),.d (bD false)]) rr/\ss=Sum.elim (fun rr:gk=>[(0,.obj 195 ((.d (gS 1 iD u0))::List.map (aD (nZ 1 iD)) ul)),(1,.tok 2 1 rr.length)]) (fun rr:gm=>[(0,.obj 195 ((.d (gS 1 iD u0))::List.map (aD (nZ 1 iD)) ul)),(1,.tok 2 1 rr.2.length)]) rr
 |0,_,_,_,_,_,h=>by cases h
 |fu+1,out,t,u0,ul,rr,h=>by
  have ih:∀{out:gk}{t:gk}{u0:gk}{ul:gp},iH (jE fu out t u0 ul) fun rr=>h_ Tryz.prog 93 [.ptr 0 0,.own 1 1 (List.map iD out),.d (gS 1 iD t)] [(0,.obj 195 ((.d (gS 1 iD u0))::List.map (aD (nZ 1 iD)) ul)),(1,.tok 2 1 out.length)] 2 fun xx ss=>xx=Sum.elim (fun rr:gk=>.lE [.own 1 1 (List.map iD rr),.d (bD true)]) (fun rr:gm=>.lE [.d (gS 1 iD rr.1),.d (bD false)]) rr/\ss=Sum.elim (fun rr:gk=>[(0,.obj 195 ((.d (gS 1 iD u0))::List.map (aD (nZ 1 iD)) ul)),(1,.tok 2 1 rr.length)]) (fun rr:gm=>[(0,.obj 195 ((.d (gS 1 iD u0))::List.map (aD (nZ 1 iD)) ul)),(1,.tok 2 1 rr.2.length)]) rr:=⟨fun h=>rZ h⟩
  unfold jE at h;refine Y_.mm (gO ?_);delta Xs;refine iE ?_;refine kT h [1,6,7,9,10,13,14,15,16,17,18,19,20,21,22,23,24,25,26,27,28,29,30,31,32,33,34,35,36,37,38,39,40,41,42,43,44,45,46,47,48,49,50,51] (fun pp=>[(1,.own 1 1 (List.map iD pp.1)),(13,.d (iD pp.2))]) (fun pp=>[(0,.obj 195 ((.d (gS 1 iD u0))::List.map (aD (nZ 1 iD)) ul)),(1,.tok 2 1 pp.1.length)]) ?_;rintro⟨out_1,v13⟩ t1 h hb1;unfold nj at h;try dsimp only at h
  refine gO (iE ?_);refine iT h fun hc1 h=>?_
  refine jG h fun hp h=>?_
  refine it h (fun hc2 h=>?_) fun hc2 h=>?_
  ·refine jG h fun hp h=>?_
   refine it h (fun hc3 h=>?_) fun hc3 h=>?_
   ·refine iF h fun hc4 h=>?_
    refine jG h fun hp h=>?_
    cases h;refine⟨_,rfl,?_⟩;refine(ij.drop 49 gN).trans ?_;exact wk
   refine pz ?_;refine CN [(0,0),(1,1)] [] h (fun rt hrt h=>?_) fun rf hrf h=>?_
   ·exact nr
   exact nr
  refine iF h fun hc5 h=>?_
  refine jG h fun hp h=>?_
  cases h;refine⟨_,rfl,?_⟩;refine(ij.drop 49 gN).trans ?_;exact wk
instance B6{out:gk}{t:gk}{u0:gk}{ul:gp}:iH (mM out t u0 ul) fun rr=>h_ Tryz.prog 93 [.ptr 0 0,.own 1 1 (List.map iD out),.d (gS 1 iD t)] [(0,.obj 195 ((.d (gS 1 iD u0))::List.map (aD (nZ 1 iD)) ul)),(1,.tok 2 1 out.length)] 2 fun xx ss=>xx=Sum.elim (fun rr:gk=>.lE [.own 1 1 (List.map iD rr),.d (bD true)]) (fun rr:gm=>.lE [.d (gS 1 iD rr.1),.d (bD false)]) rr/\ss=Sum.elim (fun rr:gk=>[(0,.obj 195 ((.d (gS 1 iD u0))::List.map (aD (nZ 1 iD)) ul)),(1,.tok 2 1 rr.length)]) (fun rr:gm=>[(0,.obj 195 ((.d (gS 1 iD u0))::List.map (aD (nZ 1 iD)) ul)),(1,.tok 2 1 rr.2.length)]) rr:=⟨fun h=>rZ (vS h).choose_spec⟩
def iL(t:gk)(u0:gk)(ul:gp):Option (gk⊕gm):=mM [] t u0 ul
instance Dh{t:gk}{u0:gk}{ul:gp}:iH (iL t u0 ul) fun rr=>h_ Tryz.prog 93 [.ptr 0 0,.d (.sl 0 (some true) []),.d (gS 1 iD t)] [(0,.obj 195 ((.d (gS 1 iD u0))::List.map (aD (nZ 1 iD)) ul))] 1 fun xx ss=>xx=Sum.elim (fun rr:gk=>.lE [.own 1 1 (List.map iD rr),.d (bD true)]) (fun rr:gm=>.lE [.d (gS 1 iD rr.1),.d (bD false)]) rr/\ss=Sum.elim (fun rr:gk=>[(0,.obj 195 ((.d (gS 1 iD u0))::List.map (aD (nZ 1 iD)) ul)),(1,.tok 2 1 rr.length)]) (fun rr:gm=>[(0,.obj 195 ((.d (gS 1 iD u0))::List.map (aD (nZ 1 iD)) ul)),(1,.tok 2 1 rr.2.length)]) rr:=⟨fun h=>h_.Ud 1 1 2 1 rfl rfl (iH.c (x:=mM [] t u0 ul) h)⟩
def Xv:gV:=
 (.seq (.gQ (sq 6 [mi 0])) (.seq (.gQ (sq 10 [mv 0,mv 1,mv 2,.slc (t0 11) 1 none (some (t0 12)) none,.me 93 [(t0 10),(.const (.slice none 0 0)),(t0 13)]]++sq 9 [mv 14]++sq 15 [ex 9 0,ex 9 1]++sq 7 [mv 15,mv 16])) (.seq (.gQ (sq 17 [mv 7,ln 17]++sq 6 [mv 18])) .ret)))
theorem Zc:jV Tryz.prog 96 Xv 19 [.tmp 6]:=mf Tryz.func96 Tryz.ntmps96
def kF(t:gk)(at':Int)(u0:gk)(ul:gp):Option Int:=
 if 0<=at'/\at'<=(t.length:Int)then
  (iL (t.take at'.toNat) u0 ul).bind (Sum.elim (fun rt=>
   some (rt.length:Int)) (fun rf=>
   some (rf.1.length:Int)))
 else none
instance Em{t:gk}{at':Int}{u0:gk}{ul:gp}:iH (kF t at' u0 ul) fun rr=>h_ Tryz.prog 96 [.ptr 0 0,.d (gS 1 iD t),.d (iD at')] [(0,.obj 195 ((.d (gS 1 iD u0))::List.map (aD (nZ 1 iD)) ul))] 1 fun xx ss=>xx=.d (iD rr)/\ss=[(0,.obj 195 ((.d (gS 1 iD u0))::List.map (aD (nZ 1 iD)) ul))]:=⟨@fun rr h=>by
 delta kF at h;refine Zc.mm (gO ?_);delta Xv;refine iE ?_;refine jG h fun hp h=>?_
 refine CN [(0,0)] [(1,14)] h (fun rt hrt h=>?_) fun rf hrf h=>?_
 ·cases h;exact⟨[14],by simp,oG,oG⟩
 cases h;exact⟨[14],by simp,oG,oG⟩⟩
def uE:gV:=
 (.seq (.gQ (sq 2 [.mv (.const (.slice none 0 0))])) (.seq (.gQ (sq 3 [.mv (.const (.slice none 0 0))])) (.seq (.gQ (sq 4 [.mv (.const (.slice none 0 0))])) (.seq (.seq (.gQ (sq 11 [mv 0,ln 11,mi 0])) (.block 0 (.loop (.seq (.gQ (sq 14 [bn .lss 13 12])) (.seq (.cond (t0 14) .skip (.exit 0)) (.seq (.block 1 (.seq (.gQ (sq 15 [ix 1 11 13,ld 15]++sq 6 [mv 16])) (.seq (.gQ (sq 17 [mv 6,cf 112 [17]]++sq 7 [mv 18])) (.seq (.seq (.gQ (sq 19 [mv 7,ln 19,mi 0])) (.block 2 (.loop (.seq (.gQ (sq 22 [bn .lss 21 20])) (.seq (.cond (t0 22) .skip (.exit 2)) (.seq (.block 3 (.seq (.gQ (sq 23 [mv 21,ix 1 19 21,ld 24]++sq 8 [mv 23,mv 25])) (.seq (.seq (.gQ (sq 26 [mv 9,bi .geq 26 0])) (.cond (t0 27) (.exit 3) .skip)) (.seq (.gQ (sq 28 [mv 3,mv 9,cf 128 [28,29]]++sq 10 [mv 30])) (.seq (.seq (.gQ (sq 31 [mv 10,bi .lss 31 0])) (.cond (t0 32) (.seq (.gQ (sq 33 [mv 3,ln 33]++sq 10 [mv 34])) (.gQ (sq 35 [mv 3,mv 9,.pF 37 2 1 [(t0 36)],ap 38 2 1 8 35 37]++sq 3 [mv 38]))) .skip)) (.gQ (sq 39 [mv 7,mv 8,mv 10,.bin .sub (i0 (-1)) (t0 41),ix 1 39 40]++s0 (sr 1 43 42)))))))) (.gQ (sq 44 [bi .add 21 1]++sq 21 [mv 44])))))))) (.ghost (.gQ (sq 45 [mv 4,mv 7,.pF 47 22 1 [(t0 46)],ap 48 22 1 24 45 47]++sq 4 [mv 48]))))))) (.gQ (sq 49 [bi .add 13 1]++sq 13 [mv 49])))))))) (.seq (.gQ (sq 50 [mv 4]++sq 2 [mv 50])) .ret)))))
theorem za:jV Tryz.prog 97 uE 51 [.tmp 2]:=mf Tryz.func97 Tryz.ntmps97
def mL(out:gp)(v13:Int)(r:gk):(gk×Int×gk)->Option ((gk×Int×gk)⊕((gk×gp×Int)⊕gp))
 |(seen_1,v21,g18)=>
  if(decide (v21<(r.length:Int)))=true then
   if 0<=v21/\v21<(g18.length:Int)then
    if(decide (0<=(g18.getD v21.toNat default)))=true then
     some (.inl (seen_1,(IntKind.i64.wrap (v21+1)),g18))
    else
     (iM seen_1 (g18.getD v21.toNat default)).bind fun r_1=>
     if(decide (r_1<0))=true then
      if(seen_1.length+1)*8<=140737488355328 then
       some (.inl ((seen_1++[(g18.getD v21.toNat default)]),(IntKind.i64.wrap (v21+1)),(g18.set v21.toNat (IntKind.i64.wrap ((-1)-(seen_1.length:Int))))))
      else none
     else
      some (.inl (seen_1,(IntKind.i64.wrap (v21+1)),(g18.set v21.toNat (IntKind.i64.wrap ((-1)-r_1)))))
   else none
  else
   Option.map Sum.inr (
    if(out.length+1)*24<=140737488355328 then
     some (.inl (seen_1,(out++[g18]),(IntKind.i64.wrap (v13+1))))
    else none)
def mK(ts:gp):(gk×gp×Int)->Option ((gk×gp×Int)⊕gp)
 |(seen,out,v13)=>
  if(decide (v13<(ts.length:Int)))=true then
   if 0<=v13/\v13<(ts.length:Int)then
    (iK (ts.getD v13.toNat default)).bind fun r=>
    g_ (mL out v13 r) (seen,0,r)
   else none
  else
   Option.map Sum.inr (
    some out)
def oQ(ts:gp):Option gp:=
 g_ (mK ts) ([],[],0)
instance Lt{ts:gp}:iH (oQ ts) fun rr=>jF Tryz.prog 97 [(gS 1 (gS 1 iD)) ts] ((gS 1 (gS 1 iD)) rr):=⟨@fun rr h=>by
 delta oQ at h;refine za.jf (gO ?_);delta uE;refine iE ?_;refine sW h [3,4,6,7,8,9,10,13,14,15,16,17,18,19,20,21,22,23,24,25,26,27,28,29,30,31,32,33,34,35,36,37,38,39,40,41,42,43,44,45,46,47,48,49] (fun pp=>[(3,.own 1 38 (List.map iD pp.1)),(4,.own 1 48 (List.map (gS 1 iD) pp.2.1)),(13,.d (iD pp.2.2))]) (fun pp=>[(38,.tok 2 1 pp.1.length),(48,.tok 22 1 pp.2.1.length)]) ?_ ?_
 ·try dsimp only
  refine(ij.Q9 3 38 2 1 rfl rfl).trans ?_;refine(ij.Q9 4 48 22 1 rfl rfl).trans ?_;exact wk
 rintro⟨seen,out,v13⟩ t1 h hb1;unfold mK at h;try dsimp only at h
 refine gO (iE ?_);refine iT h fun hc1 h=>?_
 refine jG h fun hp h=>?_
 refine vf [] [(900000,18)] h fun r hr h=>?_
 refine kT h [3,7,8,9,10,19,21,22,23,24,25,26,27,28,29,30,31,32,33,34,35,36,37,38,39,40,41,42,43,44] (fun pp=>[(3,.own 1 38 (List.map iD pp.1)),(21,.d (iD pp.2.1)),(7,.kL 1 18 pp.2.2.length),(19,.kL 1 18 pp.2.2.length)]) (fun pp=>[(18,.kO 2 1 pp.2.2.length (lq iD pp.2.2)),(38,.tok 2 1 pp.1.length),(48,.tok 22 1 out.length)]) ?_;rintro⟨seen_1,v21,g18⟩ t2 h hb2;unfold mL at h;try dsimp only at h
 refine gO (iE ?_);refine it h (fun hc2 h=>?_) fun hc2 h=>?_
 ·refine jG h fun hp h=>?_
  refine pz ?_;refine iF h fun hc3 h=>?_
  refine rC h fun r_1 hr_1 h=>?_
  refine iT h fun hc4 h=>?_
  refine jG h fun hp h=>?_
  refine pz ?_;refine pz ?_;cases h;refine⟨_,rfl,?_⟩;refine(ij.drop 37 gN).trans ?_;exact wk
 replace h:=jg h hb2;refine jX.of ((ij.fz 18 iD rfl g18)) ?_;refine ZV ?_;refine iE ?_;refine jG h fun hp h=>?_
 cases h;refine⟨_,rfl,?_⟩;refine(ij.drop 47 gN).trans ?_;exact wk⟩
def W9:gV:=
 (.seq (.gQ (sq 4 [bo 4 33 0]++sq 8 [.alloc 8 54 [.sl 0 (some true) [],.sl 0 (some true) [],.sl 0 (some true) [],.lit (.int .i64 0),.lit (.int .i64 0),.lit (.int .i64 0)],mb false])) (.seq (.gQ (sq 22 [la 2 4,mv 1,mv 2,mv 3,cf 92 [22,23,24,25]]++sq 21 [mv 26]++sq 27 [ex 21 0,ex 21 1]++sq 10 [mv 27,mv 28])) (.seq (.seq (.gQ (sq 29 [mv 11,nt 29])) (.cond (t0 30) (.seq (.gQ (sq 31 [.build [.sl 0 (some true) [],.sl 0 (some true) [],.sl 0 (some true) [],.lit (.int .i64 0),.lit (.int .i64 0),.lit (.int .i64 0)] []]++s0 (sr 6 8 31)++sq 9 [mb false])) .ret) .skip)) (.seq (.gQ (sq 32 [fa 1 4,ld 32,mv 1,ix 2 33 34,la 2 35]++sq 12 [.alloc 12 81 [.sl 0 (some true) [],.sl 0 (some true) []]]++s0 (sr 2 12 36))) (.seq (.gQ (sq 38 [mv 10,fa 0 12,ld 39,.me 93 [(t0 38),(.const (.slice none 0 0)),(t0 40)]]++sq 37 [mv 41]++sq 42 [ex 37 0,ex 37 1]++sq 13 [mv 42,mv 43])) (.seq (.gQ (sq 45 [mv 10,fa 1 12,ld 46,.me 93 [(t0 45),(.const (.slice none 0 0)),(t0 47)]]++sq 44 [mv 48]++sq 49 [ex 44 0,ex 44 1]++sq 15 [mv 49,mv 50])) (.seq (.gQ (sq 52 [mv 10,fa 1 4,ld 53,mv 3,ix 2 54 55,fa 1 56,ld 57,cf 94 [58],.me 93 [(t0 52),(.const (.slice none 0 0)),(t0 59)]]++sq 51 [mv 60]++sq 61 [ex 51 0,ex 51 1]++sq 17 [mv 61,mv 62])) (.seq (.seq (.gQ (sq 63 [mv 14,nt 63,mv 64]++sg 65 false 66 [mv 16,nt 66]++sq 68 [po 65 67,mv 68]++sg 69 false 70 [mv 18,nt 70]++sq 72 [po 69 71])) (.cond (t0 72) (.seq (.gQ (sq 73 [.build [.sl 0 (some true) [],.sl 0 (some true) [],.sl 0 (some true) [],.lit (.int .i64 0),.lit (.int .i64 0),.lit (.int .i64 0)] []]++s0 (sr 6 8 73)++sq 9 [mb false])) .ret) .skip)) (.seq (.draw (sq 75 [fa 0 4,la 1 75,mv 13,mv 10,fa 0 12,ld 79,mv 2,cf 96 [78,80,81],mv 17,cf 95 [76,77,82,83]]++sq 74 [mv 84]++sq 85 [ex 74 0,ex 74 1]++sq 19 [mv 85]++sq 11 [mv 86]) [[],[0],[],[],[],[4],[],[3,5,6],[],[1,2,7,8,7],[9],[10],[10],[11,9,0,1,2,3,4,5,6,7,8,9,10,11],[12,13,0,1,2,3,4,5,6,7,8,9,10,11,12,13]]) (.seq (.seq (.gQ (sq 87 [mv 11,nt 87])) (.cond (t0 88) (.seq (.gQ (sq 89 [.build [.sl 0 (some true) [],.sl 0 (some true) [],.sl 0 (some true) [],.lit (.int .i64 0),.lit (.int .i64 0),.lit (.int .i64 0)] []]++s0 (sr 6 8 89)++sq 9 [mb false])) .ret) .skip)) (.seq (.gQ (sq 90 [mv 13,mv 19,mv 15,.pF 93 22 1 [(t0 90),(t0 91),(t0 92)],cf 97 [93]]++sq 20 [mv 94])) (.seq (.seq (.gQ (sq 95 [mv 20,.tg 1 (t0 95) (i0 0),ld 96,cf 98 [97],bi .lss 98 (-24)])) (.cond (t0 99) (.seq (.gQ (sq 100 [.build [.sl 0 (some true) [],.sl 0 (some true) [],.sl 0 (some true) [],.lit (.int .i64 0),.lit (.int .i64 0),.lit (.int .i64 0)] []]++s0 (sr 6 8 100)++sq 9 [mb false])) .ret) .skip)) (.seq (.draw (sq 101 [mv 20,.tg 1 (t0 101) (i0 0),ld 102,mv 20,.tg 1 (t0 104) (i0 1),ld 105,mv 20,.tg 1 (t0 107) (i0 2),ld 108,mv 2,mv 3,mv 1,.build [.sl 0 (some true) [],.sl 0 (some true) [],.sl 0 (some true) [],.lit (.int .i64 0),.lit (.int .i64 0),.lit (.int .i64 0)] [(0,1,(t0 103)),(1,1,(t0 106)),(2,1,(t0 109)),(3,1,(t0 110)),(4,1,(t0 111)),(5,1,(t0 112))]]++s0 (sr 6 8 113)++sq 9 [mb true]) [[],[0],[1],[],[3],[4],[],[6],[7],[],[],[],[2,5,8,9,10,11],[12,0,1,2,3,4,5,6,7,8,9,10,11,12],[13,0,1,2,3,4,5,6,7,8,9,10,11,12,13]]) .ret)))))))))))))
theorem YS:jV Tryz.prog 67 W9 114 [.cell 8 6 true,.tmp 9]:=mf Tryz.func67 Tryz.ntmps67
def mu(sys:gC)(over:Int)(at':Int)(under:Int):Option (gq×Bool):=
 (iQ sys over at' under).bind (Sum.elim (fun rt=>
  if 0<=over/\over<(sys.2.length:Int)then
   (iL ((sys.2.getD over.toNat default).1) rt.1 rt.2).bind (Sum.elim (fun rt_1=>
    (iL ((sys.2.getD over.toNat default).2) rt.1 rt.2).bind (Sum.elim (fun rt_2=>
     if 0<=under/\under<(sys.2.length:Int)then
      (lH ((sys.2.getD under.toNat default).2)).bind fun r=>
      (iL r rt.1 rt.2).bind (Sum.elim (fun rt_3=>
       (kF ((sys.2.getD over.toNat default).1) at' rt.1 rt.2).bind fun r_1=>
       (pR sys.1 rt_1 r_1 rt_3).bind fun r_2=>
       if r_2.2=true then
        (oQ [rt_1,r_2.1,rt_2]).bind fun r_3=>
        if 0<=0/\0<(r_3.length:Int)then
         (jo (r_3.getD 0 default)).bind fun r_4=>
         if(decide (r_4<(-24)))=true then
          some (([],[],[],0,0,0),false)
         else
          if 0<=1/\1<(r_3.length:Int)then
           if 0<=2/\2<(r_3.length:Int)then
            some (((r_3.getD 0 default),(r_3.getD 1 default),(r_3.getD 2 default),at',under,over),true)
           else none
          else none
        else none
       else
        some (([],[],[],0,0,0),false)) (fun rf=>
       some (([],[],[],0,0,0),false)))
     else none) (fun rf_1=>
     if 0<=under/\under<(sys.2.length:Int)then
      (lH ((sys.2.getD under.toNat default).2)).bind fun r_5=>
      (iL r_5 rt.1 rt.2).bind (Sum.elim (fun rt_4=>
       some (([],[],[],0,0,0),false)) (fun rf_2=>
       some (([],[],[],0,0,0),false)))
     else none))) (fun rf_3=>
    (iL ((sys.2.getD over.toNat default).2) rt.1 rt.2).bind (Sum.elim (fun rt_5=>
     if 0<=under/\under<(sys.2.length:Int)then
      (lH ((sys.2.getD under.toNat default).2)).bind fun r_6=>
      (iL r_6 rt.1 rt.2).bind (Sum.elim (fun rt_6=>
       some (([],[],[],0,0,0),false)) (fun rf_4=>
       some (([],[],[],0,0,0),false)))
     else none) (fun rf_5=>
     if 0<=under/\under<(sys.2.length:Int)then
      (lH ((sys.2.getD under.toNat default).2)).bind fun r_7=>
      (iL r_7 rt.1 rt.2).bind (Sum.elim (fun rt_7=>
       some (([],[],[],0,0,0),false)) (fun rf_6=>
       some (([],[],[],0,0,0),false)))
     else none))))
  else none) (fun rf_7=>
  some (([],[],[],0,0,0),false)))
instance OI{sys:gC}{over:Int}{at':Int}{under:Int}:iH (mu sys over at' under) fun rr=>oF Tryz.prog 67 [ia sys,iD over,iD at',iD under] [jz rr.1,bD rr.2]:=⟨@fun rr h=>by
 delta mu at h;refine YS.pG (gO ?_);delta W9;refine iE ?_;refine CN [] [(21,26)] h (fun rt hrt h=>?_) fun rf_7 hrf_7 h=>?_
 ·refine jG h fun hp h=>?_
  refine CN [(0,26)] [(1,41)] h (fun rt_1 hrt_1 h=>?_) fun rf_3 hrf_3 h=>?_
  ·refine CN [(0,26)] [(1,48)] h (fun rt_2 hrt_2 h=>?_) fun rf_1 hrf_1 h=>?_
   ·refine jG h fun hp h=>?_
    refine rC h fun r hr h=>?_
    refine CN [(0,26)] [(1,60)] h (fun rt_3 hrt_3 h=>?_) fun rf hrf h=>?_
    ·refine PM [(0,26)] [] h fun r_1 hr_1 h=>?_
     exact nr
    exact nr
   refine jG h fun hp h=>?_
   refine rC h fun r_5 hr_5 h=>?_
   refine CN [(0,26)] [(1,60)] h (fun rt_4 hrt_4 h=>?_) fun rf_2 hrf_2 h=>?_
   ·exact nr
   exact nr
  refine CN [(0,26)] [(1,48)] h (fun rt_5 hrt_5 h=>?_) fun rf_5 hrf_5 h=>?_
  ·refine jG h fun hp h=>?_
   refine rC h fun r_6 hr_6 h=>?_
   refine CN [(0,26)] [(1,60)] h (fun rt_6 hrt_6 h=>?_) fun rf_4 hrf_4 h=>?_
   ·exact nr
   exact nr
  refine jG h fun hp h=>?_
  refine rC h fun r_7 hr_7 h=>?_
  refine CN [(0,26)] [(1,60)] h (fun rt_7 hrt_7 h=>?_) fun rf_6 hrf_6 h=>?_
  ·exact nr
  exact nr
 exact nr⟩
end Go.Proofs.YtjgbnaihpicpgaaGreatDoor
namespace Go.Proofs.YtjgbnaihpicpgaaGreatDoor
open Go lY
attribute [local irreducible] rA vi uM lW lP ng jX Ak Bj yP Bi yF tw lK nO A7 iG kj Bs
set_option maxHeartbeats 4000000
set_option maxRecDepth 4000
def kE(x:Int×Int×Int):D:=.agg [iD x.1,iD x.2.1,iD x.2.2]
instance:sU kE 3:=⟨fun _=>rfl⟩
attribute [go_sem] kE
abbrev Fg:=gk×List gm
abbrev IF:=Int×Int×Int
def vt(sys:Fg)(ov at':Nat):Nat->Option (List IF)
 |0=>some []
 |k+1=>
  if(decide ((sys.2.getD ov default).1.getD at' default<0))=true then vt sys ov at' k
  else(iQ sys (ov:Int) (at':Int) ((sys.2.length-(k+1):Nat):Int)).bind (Sum.elim (fun _=>(vt sys ov at' k).map fun l=>((ov:Int),(at':Int),((sys.2.length-(k+1):Nat):Int))::l) (fun _=>vt sys ov at' k))
def AM(sys:Fg)(ov:Nat):Nat->Option (List IF)
 |0=>some []
 |k+1=>(vt sys ov ((sys.2.getD ov default).1.length-(k+1)) sys.2.length).bind fun xs=>(AM sys ov k).map fun ys=>xs++ys
def AN(sys:Fg):Nat->Option (List IF)
 |0=>some []
 |k+1=>(AM sys (sys.2.length-(k+1)) ((sys.2.getD (sys.2.length-(k+1)) default).1).length).bind fun xs=>(AN sys k).map fun ys=>xs++ys
def Ao(sys:Fg):Option (List IF):=AN sys sys.2.length
theorem Ky{P:Program}{l:Nat}{ms:List iw}(pre post:List iw)(d q0:Nat)(want:Bool)(g:Operand)(args:List Operand){Q:sB}{env:List AV}{x:List D}{r:List (List D)}(hms:ms=pre++⟨some d,.mz g args,some (some q0,want)⟩::post)
 (hpre:sS P 0 pre env [] (fun env' s'=>∃env1,ij 0 env' s' env1 []/\AV.iz (fun _=>none) env1=env1/\ev env1 g=.d (.lit (.func (.yield l) #[] #[]))/\args.map (ev env1)=x.map .d/\env1.getD q0 .gW=.d (.lit (.bool want))/\
  ∀b,sS P 0 post (env1.set d (.d (bD b))) [] (fun env' s'=>∃env2,ij 0 env' s' env2 []/\AV.iz (fun _=>none) env2=env2/\Q .normal env2 (if b then some r else none)))):Bs P l (.gQ ms) Q env (some (x::r)):=by
 subst hms;exact MY hpre
def Xr:gV:=
 (.seq (.gQ (sq 10 [fa 1 1,ld 10,ln 11,mi 0])) (.block 0 (.loop (.seq (.gQ (sq 14 [bn .lss 13 12])) (.seq (.cond (t0 14) .skip (.exit 0)) (.seq (.block 1 (.seq (.gQ (sq 15 [mv 13,ix 2 11 13,la 2 16]++sq 4 [.alloc 4 81 [.sl 0 (some true) [],.sl 0 (some true) []]]++sq 3 [mv 15]++s0 (sr 2 4 17))) (.seq (.gQ (sq 18 [fa 0 4,ld 18,ln 19,mi 0])) (.block 2 (.loop (.seq (.gQ (sq 22 [bn .lss 21 20])) (.seq (.cond (t0 22) .skip (.exit 2)) (.seq (.block 3 (.seq (.gQ (sq 23 [mv 21,ix 1 19 21,ld 24]++sq 5 [mv 23,mv 25])) (.seq (.gQ (sq 26 [fa 1 1,ld 26,ln 27,mi 0])) (.block 4 (.loop (.seq (.gQ (sq 30 [bn .lss 29 28])) (.seq (.cond (t0 30) .skip (.exit 4)) (.seq (.block 5 (.seq (.gQ (sq 31 [mv 29]++sq 7 [mv 31])) (.seq (.seq (.gQ (sq 32 [mv 6,bi .lss 32 0])) (.cond (t0 33) (.exit 5) .skip)) (.seq (.gQ (sq 35 [la 2 1,mv 3,mv 5,mv 7,cf 92 [35,36,37,38]]++sq 34 [mv 39]++sq 40 [ex 34 0,ex 34 1]++sq 8 [mv 40,mv 41])) (.seq (.gQ (sq 42 [mv 9,mv 42]++sg 43 true 44 [mv 0,mv 3,mv 5,mv 7,.build [.lit (.int .i64 0),.lit (.int .i64 0),.lit (.int .i64 0)] [(0,1,(t0 45)),(1,1,(t0 46)),(2,1,(t0 47))],.mz (t0 44) [(t0 48)],nt 49]++sq 51 [pa 43 50])) (.cond (t0 51) .ret .skip)))))) (.gQ (sq 52 [bi .add 29 1]++sq 29 [mv 52])))))))))) (.gQ (sq 53 [bi .add 21 1]++sq 21 [mv 53])))))))))) (.gQ (sq 54 [bi .add 13 1]++sq 13 [mv 54]))))))))
theorem Y9:jV Tryz.prog 91 Xr 55 []:=mf Tryz.func91 Tryz.ntmps91
def W8:gV:=
 (.seq (.gQ (sq 1 [bo 1 33 0,.mv (.const .nilFunc)])) (.seq (.gQ (sq 3 [.zS 91 [] [(t0 1)]]++sq 2 [mv 3])) .ret))
theorem YR:jV Tryz.prog 66 W8 4 [.tmp 2]:=mf Tryz.func66 Tryz.ntmps66
section
variable(sys:Fg)(l:Nat)
def Jl(ov:Nat):List AV:=[.d (.lit (.func (.yield l) #[] #[])),.pv [gS 1 iD sys.1,gS 2 gP sys.2]]++List.replicate 9 .gW++[.d (gS 2 gP sys.2),.d (iD (sys.2.length:Int)),.d (iD (ov:Int))]++List.replicate 41 .gW
def Zy(ov:Nat):List AV:=[.d (.lit (.func (.yield l) #[] #[])),.pv [gS 1 iD sys.1,gS 2 gP sys.2],.gW,.d (iD (ov:Int)),.pv [gS 1 iD (sys.2.getD ov default).1,gS 1 iD (sys.2.getD ov default).2]]++List.replicate 6 .gW++[.d (gS 2 gP sys.2),.d (iD (sys.2.length:Int)),.d (iD (ov:Int))]++List.replicate 41 .gW
def LJ(ov at':Nat):List AV:=[.d (.lit (.func (.yield l) #[] #[])),.pv [gS 1 iD sys.1,gS 2 gP sys.2],.gW,.d (iD (ov:Int)),.pv [gS 1 iD (sys.2.getD ov default).1,gS 1 iD (sys.2.getD ov default).2]]++List.replicate 6 .gW++[.d (gS 2 gP sys.2),.d (iD (sys.2.length:Int)),.d (iD (ov:Int))]++List.replicate 5 .gW++[.d (gS 1 iD (sys.2.getD ov default).1),.d (iD ((sys.2.getD ov default).1.length:Int)),.d (iD (at':Int))]++List.replicate 33 .gW
def Zz(ov at':Nat):List AV:=[.d (.lit (.func (.yield l) #[] #[])),.pv [gS 1 iD sys.1,gS 2 gP sys.2],.gW,.d (iD (ov:Int)),.pv [gS 1 iD (sys.2.getD ov default).1,gS 1 iD (sys.2.getD ov default).2],.d (iD (at':Int)),.d (iD ((sys.2.getD ov default).1.getD at' default))]++List.replicate 4 .gW++[.d (gS 2 gP sys.2),.d (iD (sys.2.length:Int)),.d (iD (ov:Int))]++List.replicate 5 .gW++[.d (gS 1 iD (sys.2.getD ov default).1),.d (iD ((sys.2.getD ov default).1.length:Int)),.d (iD (at':Int))]++List.replicate 33 .gW
def D1(ov at' un:Nat):List AV:=[.d (.lit (.func (.yield l) #[] #[])),.pv [gS 1 iD sys.1,gS 2 gP sys.2],.gW,.d (iD (ov:Int)),.pv [gS 1 iD (sys.2.getD ov default).1,gS 1 iD (sys.2.getD ov default).2],.d (iD (at':Int)),.d (iD ((sys.2.getD ov default).1.getD at' default))]++List.replicate 4 .gW++[.d (gS 2 gP sys.2),.d (iD (sys.2.length:Int)),.d (iD (ov:Int))]++List.replicate 5 .gW++[.d (gS 1 iD (sys.2.getD ov default).1),.d (iD ((sys.2.getD ov default).1.length:Int)),.d (iD (at':Int))]++List.replicate 5 .gW++[.d (gS 2 gP sys.2),.d (iD (sys.2.length:Int)),.d (iD (un:Int))]++List.replicate 25 .gW
def U7(ov at' un:Nat):List AV:=[.d (.lit (.func (.yield l) #[] #[])),.pv [gS 1 iD sys.1,gS 2 gP sys.2],.gW,.d (iD (ov:Int)),.pv [gS 1 iD (sys.2.getD ov default).1,gS 1 iD (sys.2.getD ov default).2],.d (iD (at':Int)),.d (iD ((sys.2.getD ov default).1.getD at' default)),.d (iD (un:Int)),.gW,.gW,.gW,.d (gS 2 gP sys.2),.d (iD (sys.2.length:Int)),.d (iD (ov:Int))]++List.replicate 5 .gW++[.d (gS 1 iD (sys.2.getD ov default).1),.d (iD ((sys.2.getD ov default).1.length:Int)),.d (iD (at':Int))]++List.replicate 5 .gW++[.d (gS 2 gP sys.2),.d (iD (sys.2.length:Int)),.d (iD (un:Int))]++List.replicate 25 .gW
def Zw(ov at' un:Nat):List AV:=[.d (.lit (.func (.yield l) #[] #[])),.pv [gS 1 iD sys.1,gS 2 gP sys.2],.gW,.d (iD (ov:Int)),.pv [gS 1 iD (sys.2.getD ov default).1,gS 1 iD (sys.2.getD ov default).2],.d (iD (at':Int)),.d (iD ((sys.2.getD ov default).1.getD at' default)),.d (iD (un:Int)),.gW,.d (bD true),.gW,.d (gS 2 gP sys.2),.d (iD (sys.2.length:Int)),.d (iD (ov:Int))]++List.replicate 5 .gW++[.d (gS 1 iD (sys.2.getD ov default).1),.d (iD ((sys.2.getD ov default).1.length:Int)),.d (iD (at':Int))]++List.replicate 5 .gW++[.d (gS 2 gP sys.2),.d (iD (sys.2.length:Int)),.d (iD (un:Int))]++List.replicate 25 .gW
def ZA(ov at' un:Nat):List AV:=[.d (.lit (.func (.yield l) #[] #[])),.pv [gS 1 iD sys.1,gS 2 gP sys.2],.gW,.d (iD (ov:Int)),.pv [gS 1 iD (sys.2.getD ov default).1,gS 1 iD (sys.2.getD ov default).2],.d (iD (at':Int)),.d (iD ((sys.2.getD ov default).1.getD at' default))]++List.replicate 4 .gW++[.d (gS 2 gP sys.2),.d (iD (sys.2.length:Int)),.d (iD (ov:Int))]++List.replicate 5 .gW++[.d (gS 1 iD (sys.2.getD ov default).1),.d (iD ((sys.2.getD ov default).1.length:Int)),.d (iD (at':Int))]++List.replicate 5 .gW++[.d (gS 2 gP sys.2),.d (iD (sys.2.length:Int)),.d (iD (un:Int))]++List.replicate 13 .gW++[.d (bD true),.d (.lit (.func (.yield l) #[] #[])),.gW,.gW,.gW,.d (kE ((ov:Int),(at':Int),(un:Int)))]++List.replicate 6 .gW
def Zx(ov at' un:Nat)(b:Bool):List AV:=[.d (.lit (.func (.yield l) #[] #[])),.pv [gS 1 iD sys.1,gS 2 gP sys.2],.gW,.d (iD (ov:Int)),.pv [gS 1 iD (sys.2.getD ov default).1,gS 1 iD (sys.2.getD ov default).2],.d (iD (at':Int)),.d (iD ((sys.2.getD ov default).1.getD at' default))]++List.replicate 4 .gW++[.d (gS 2 gP sys.2),.d (iD (sys.2.length:Int)),.d (iD (ov:Int))]++List.replicate 5 .gW++[.d (gS 1 iD (sys.2.getD ov default).1),.d (iD ((sys.2.getD ov default).1.length:Int)),.d (iD (at':Int))]++List.replicate 5 .gW++[.d (gS 2 gP sys.2),.d (iD (sys.2.length:Int)),.d (iD (un:Int))]++List.replicate 21 .gW++[.d (bD (!b)),.gW,.gW,.gW]
end
theorem F5{sys:Fg}{els:List IF}(h0:Ao sys=some els):Iter Tryz.prog 91 [.pv [gS 1 iD sys.1,gS 2 gP sys.2]] (els.map fun x=>[kE x]):=by
 refine EA Y9 (by kernel_rfl) rfl fun l=>Cu (p:=sys.2.length<2^63) (fun X a W hst=>by have:=CM (i:=1) (cs1:=[gS 1 iD sys.1]) (cs2:=[]) (ds:=sys.2.map gP) (e:=2) (nl:=none) hst rfl;simpa using this) fun hlen2=>?_
 delta Xr;refine ku (jt rfl (gO ?_));show rA _ _ _ _ ([.d (.lit (.func (.yield l) #[] #[])),.pv [gS 1 iD sys.1,gS 2 gP sys.2]]++List.replicate 53 .gW) [];refine iE ?_;refine⟨Jl sys l 0,(by delta Jl;exact wk),rfl,qT ?_⟩;refine AK (ι:=Nat×List IF) (fun p=>Jl sys l p.1) (fun p=>some (p.2.map fun x=>[kE x])) (fun p=>p.1<=sys.2.length/\AN sys (sys.2.length-p.1)=some p.2) (fun p=>sys.2.length-p.1) (0,els) ⟨cQ _,h0⟩ .refl (fun _=>rfl) ?_;rintro⟨ov,r⟩ ⟨hov,h⟩;simp only at hov h⊢;refine ku (jt rfl (gO ?_));delta Jl;by_cases hlt:ov<sys.2.length
 rotate_left
 ·have hc:decide ((ov:Int)<(sys.2.length:Int))=false:=by simpa using hlt
  refine qz hc ?_;refine⟨[.d (.lit (.func (.yield l) #[] #[])),.pv [gS 1 iD sys.1,gS 2 gP sys.2]]++List.replicate 9 .gW++[.d (gS 2 gP sys.2),.d (iD (sys.2.length:Int)),.d (iD (ov:Int)),.d (bD false)]++List.replicate 40 .gW,wk,rfl,ku (jt rfl (gO ?_))⟩;refine iE ?_;have:ov=sys.2.length:=by omega
  subst this;rw[cL]at h;cases h;exact⟨Jl sys l sys.2.length,(by delta Jl;exact wk),rfl,.inl rfl,.inl rfl⟩
 have hc:decide ((ov:Int)<(sys.2.length:Int))=true:=by simpa using hlt
 refine qz hc ?_;refine⟨[.d (.lit (.func (.yield l) #[] #[])),.pv [gS 1 iD sys.1,gS 2 gP sys.2]]++List.replicate 9 .gW++[.d (gS 2 gP sys.2),.d (iD (sys.2.length:Int)),.d (iD (ov:Int)),.d (bD true)]++List.replicate 40 .gW,wk,rfl,ku (jt rfl (gO ?_))⟩;refine iE ?_;refine⟨Jl sys l ov,(by delta Jl;exact wk),rfl,?_⟩;obtain⟨k0,hk0⟩:∃k0,sys.2.length-ov=k0+1:=⟨sys.2.length-ov-1,gN⟩;rw[hk0]at h;simp only[AN]at h;rw[show sys.2.length-(k0+1)=ov by omega]at h;obtain⟨xs,hxs,h⟩:=ai.1 h;obtain⟨rest,hrest,hr⟩:=ay.1 h;subst hr;clear h;refine ku (qT (ku (jt rfl (gO ?_))));delta Jl;refine iE ?_;repeat(refine xN gN ?_;refine iE ?_)
 refine⟨Zy sys l ov,(ij.QG 4 (ds:=[gS 1 iD (sys.2.getD ov default).1,gS 1 iD (sys.2.getD ov default).2]) gN rfl).trans ((ij.drop 4 gN).trans (by delta Zy;exact wk)),rfl,?_⟩;refine Cu (p:=(sys.2.getD ov default).1.length<2^63) (fun X a W hst=>by have:=CM (i:=4) (cs1:=[]) (cs2:=[gS 1 iD (sys.2.getD ov default).2]) (ds:=((sys.2.getD ov default).1).map iD) (e:=1) (nl:=none) hst rfl;simpa using this) fun hlenL=>?_
 refine ku (jt rfl (gO ?_));delta Zy;refine iE ?_;refine⟨LJ sys l ov 0,(by delta LJ;exact wk),rfl,?_⟩;refine qT ?_;refine AK (ι:=Nat×List IF) (fun p=>LJ sys l ov p.1) (fun p=>some ((fun p:Nat×List IF=>(p.2++rest).map fun x=>[kE x]) p)) (fun p=>p.1<=(sys.2.getD ov default).1.length/\AM sys ov ((sys.2.getD ov default).1.length-p.1)=some p.2) (fun p=>(sys.2.getD ov default).1.length-p.1) (0,xs) ⟨cQ _,hxs⟩ .refl (fun _=>rfl) ?_;clear hxs;rintro⟨at',r2⟩ ⟨hat,h⟩;simp only at hat h⊢;refine ku (jt rfl (gO ?_));delta LJ;by_cases hla:at'<(sys.2.getD ov default).1.length
 rotate_left
 ·have hc:decide ((at':Int)<((sys.2.getD ov default).1.length:Int))=false:=by simpa using hla
  refine qz hc ?_;refine⟨[.d (.lit (.func (.yield l) #[] #[])),.pv [gS 1 iD sys.1,gS 2 gP sys.2],.gW,.d (iD (ov:Int)),.pv [gS 1 iD (sys.2.getD ov default).1,gS 1 iD (sys.2.getD ov default).2]]++List.replicate 6 .gW++[.d (gS 2 gP sys.2),.d (iD (sys.2.length:Int)),.d (iD (ov:Int))]++List.replicate 5 .gW++[.d (gS 1 iD (sys.2.getD ov default).1),.d (iD ((sys.2.getD ov default).1.length:Int)),.d (iD (at':Int)),.d (bD false)]++List.replicate 32 .gW,wk,rfl,ku (jt rfl (gO ?_))⟩;refine iE ?_;have:at'=(sys.2.getD ov default).1.length:=by omega
  subst this;rw[cL]at h;cases h;refine⟨Jl sys l ov,(by delta Jl;exact wk),rfl,?_⟩;show Bs _ _ _ _ _ _;refine jt rfl (gO ?_);delta Jl;refine iE ?_;have hw1:IntKind.i64.wrap ((ov:Int)+1)=((ov+1:Nat):Int):=by rw[wrap_i64 gN gN];omega
  rw[hw1];refine⟨Jl sys l (ov+1),(by delta Jl;exact wk),rfl,(ov+1,rest),⟨⟨gN,?_⟩,by simp only;omega⟩,.refl,rfl⟩;simp only;rw[show sys.2.length-(ov+1)=k0 by omega];exact hrest
 have hc:decide ((at':Int)<((sys.2.getD ov default).1.length:Int))=true:=by simpa using hla
 refine qz hc ?_;refine⟨[.d (.lit (.func (.yield l) #[] #[])),.pv [gS 1 iD sys.1,gS 2 gP sys.2],.gW,.d (iD (ov:Int)),.pv [gS 1 iD (sys.2.getD ov default).1,gS 1 iD (sys.2.getD ov default).2]]++List.replicate 6 .gW++[.d (gS 2 gP sys.2),.d (iD (sys.2.length:Int)),.d (iD (ov:Int))]++List.replicate 5 .gW++[.d (gS 1 iD (sys.2.getD ov default).1),.d (iD ((sys.2.getD ov default).1.length:Int)),.d (iD (at':Int)),.d (bD true)]++List.replicate 32 .gW,wk,rfl,ku (jt rfl (gO ?_))⟩;refine iE ?_;refine⟨LJ sys l ov at',(by delta LJ;exact wk),rfl,?_⟩;obtain⟨k1,hk1⟩:∃k1,(sys.2.getD ov default).1.length-at'=k1+1:=⟨(sys.2.getD ov default).1.length-at'-1,gN⟩;rw[hk1]at h;simp only[AM]at h;rw[show(sys.2.getD ov default).1.length-(k1+1)=at' by omega]at h;obtain⟨xs2,hxs2,h⟩:=ai.1 h;obtain⟨rest2,hrest2,hr2⟩:=ay.1 h;subst hr2;clear h;rw[aG];refine ku (qT (ku (jt rfl (gO ?_))));delta LJ;refine iE ?_;repeat(refine xN gN ?_;refine iE ?_)
 refine⟨Zz sys l ov at',(by delta Zz;exact wk),rfl,ku (jt rfl (gO ?_))⟩;delta Zz;refine iE ?_;refine⟨D1 sys l ov at' 0,(by delta D1;exact wk),rfl,qT ?_⟩;refine AK (ι:=Nat×List IF) (fun p=>D1 sys l ov at' p.1) (fun p=>some ((fun p:Nat×List IF=>(p.2++(rest2++rest)).map fun x=>[kE x]) p)) (fun p=>p.1<=sys.2.length/\vt sys ov at' (sys.2.length-p.1)=some p.2) (fun p=>sys.2.length-p.1) (0,xs2) ⟨cQ _,hxs2⟩ .refl (fun _=>rfl) ?_;clear hxs2;rintro⟨un,ys⟩ ⟨hun,h⟩;simp only at hun h⊢;refine ku (jt rfl (gO ?_));delta D1;by_cases hlu:un<sys.2.length
 rotate_left
 ·have hc:decide ((un:Int)<(sys.2.length:Int))=false:=by simpa using hlu
  refine qz hc ?_;refine⟨[.d (.lit (.func (.yield l) #[] #[])),.pv [gS 1 iD sys.1,gS 2 gP sys.2],.gW,.d (iD (ov:Int)),.pv [gS 1 iD (sys.2.getD ov default).1,gS 1 iD (sys.2.getD ov default).2],.d (iD (at':Int)),.d (iD ((sys.2.getD ov default).1.getD at' default))]++List.replicate 4 .gW++[.d (gS 2 gP sys.2),.d (iD (sys.2.length:Int)),.d (iD (ov:Int))]++List.replicate 5 .gW++[.d (gS 1 iD (sys.2.getD ov default).1),.d (iD ((sys.2.getD ov default).1.length:Int)),.d (iD (at':Int))]++List.replicate 5 .gW++[.d (gS 2 gP sys.2),.d (iD (sys.2.length:Int)),.d (iD (un:Int)),.d (bD false)]++List.replicate 24 .gW,wk,rfl,ku (jt rfl (gO ?_))⟩;refine iE ?_;have:un=sys.2.length:=by omega
  subst this;rw[cL]at h;cases h;refine⟨LJ sys l ov at',(by delta LJ;exact wk),rfl,?_⟩;show Bs _ _ _ _ _ _;refine jt rfl (gO ?_);delta LJ;refine iE ?_;have hw1:IntKind.i64.wrap ((at':Int)+1)=((at'+1:Nat):Int):=by rw[wrap_i64 gN gN];omega
  rw[hw1];refine⟨LJ sys l ov (at'+1),(by delta LJ;exact wk),rfl,(at'+1,rest2),⟨⟨gN,?_⟩,by simp only;omega⟩,.refl,rfl⟩;simp only;rw[show(sys.2.getD ov default).1.length-(at'+1)=k1 by omega];exact hrest2
 have hc:decide ((un:Int)<(sys.2.length:Int))=true:=by simpa using hlu
 refine qz hc ?_;refine⟨[.d (.lit (.func (.yield l) #[] #[])),.pv [gS 1 iD sys.1,gS 2 gP sys.2],.gW,.d (iD (ov:Int)),.pv [gS 1 iD (sys.2.getD ov default).1,gS 1 iD (sys.2.getD ov default).2],.d (iD (at':Int)),.d (iD ((sys.2.getD ov default).1.getD at' default))]++List.replicate 4 .gW++[.d (gS 2 gP sys.2),.d (iD (sys.2.length:Int)),.d (iD (ov:Int))]++List.replicate 5 .gW++[.d (gS 1 iD (sys.2.getD ov default).1),.d (iD ((sys.2.getD ov default).1.length:Int)),.d (iD (at':Int))]++List.replicate 5 .gW++[.d (gS 2 gP sys.2),.d (iD (sys.2.length:Int)),.d (iD (un:Int)),.d (bD true)]++List.replicate 24 .gW,wk,rfl,ku (jt rfl (gO ?_))⟩;refine iE ?_;refine⟨D1 sys l ov at' un,(by delta D1;exact wk),rfl,?_⟩;obtain⟨k2,hk2⟩:∃k2,sys.2.length-un=k2+1:=⟨sys.2.length-un-1,gN⟩;rw[hk2]at h;simp only[vt]at h;rw[show sys.2.length-(k2+1)=un by omega]at h;have hnext:∀(Q:sB) ys',vt sys ov at' k2=some ys'->∀env1,ij 0 env1 [] (D1 sys l ov at' un) []->Bs Tryz.prog l (.gQ (sq 52 [bi .add 29 1]++sq 29 [mv 52])) (Jb (fun p:Nat×List IF=>D1 sys l ov at' p.1) (fun p:Nat×List IF=>some ((fun p:Nat×List IF=>(p.2++(rest2++rest)).map fun x=>[kE x]) p)) (fun i':Nat×List IF=>(i'.1<=sys.2.length/\vt sys ov at' (sys.2.length-i'.1)=some i'.2)/\sys.2.length-i'.1<sys.2.length-un) Q) env1 (some ((ys'++(rest2++rest)).map fun x=>[kE x])):=fun Q ys' hys' env1 hw=>by
  refine HE hw rfl (jt rfl (gO ?_));delta D1;refine iE ?_;have hw1:IntKind.i64.wrap ((un:Int)+1)=((un+1:Nat):Int):=by rw[wrap_i64 gN gN];omega
  rw[hw1];refine⟨D1 sys l ov at' (un+1),(by delta D1;exact wk),rfl,(un+1,ys'),⟨⟨gN,?_⟩,by simp only;omega⟩,.refl,rfl⟩;simp only;rw[show sys.2.length-(un+1)=k2 by omega];exact hys'
 refine ku (qT (ku (jt rfl (gO ?_))));delta D1;refine iE ?_;refine⟨U7 sys l ov at' un,(by delta U7;exact wk),rfl,ku (jt rfl (gO ?_))⟩;delta U7;by_cases hneg:(sys.2.getD ov default).1.getD at' default<0
 ·have hc:decide ((sys.2.getD ov default).1.getD at' default<0)=true:=by simpa using hneg
  simp only[hc,aB]at h;refine qz hc ?_;exact⟨D1 sys l ov at' un,(by delta D1;exact wk),rfl,hnext _ ys h _ .refl⟩
 have hc:decide ((sys.2.getD ov default).1.getD at' default<0)=false:=by simpa using hneg
 simp only[hc,aj,aF]at h;refine qz hc ?_;refine⟨U7 sys l ov at' un,(by delta U7;exact wk),rfl,ku (jt rfl (gO ?_))⟩;delta U7;refine iE ?_;refine CN [] [(21,200000)] h (fun rt hrt h=>?_) fun rf hrf h=>?_
 ·obtain⟨ys',hys',hy⟩:=ay.1 h;subst hy;refine⟨Zw sys l ov at' un,(ij.drop 200000 gN).trans (by delta Zw;exact wk),rfl,ku (Ky (sq 42 [mv 9,mv 42]++sg 43 true 44 [mv 0,mv 3,mv 5,mv 7,.build [.lit (.int .i64 0),.lit (.int .i64 0),.lit (.int .i64 0)] [(0,1,(t0 45)),(1,1,(t0 46)),(2,1,(t0 47))]]) (sg 43 true 50 [nt 49]++sq 51 [pa 43 50]) 49 43 true (t0 44) [(t0 48)] rfl (nS ?_))⟩;delta Zw;refine iE ?_;refine⟨ZA sys l ov at' un,(by delta ZA;exact wk),rfl,rfl,rfl,rfl,fun b=>nS ?_⟩;delta ZA;refine iE ?_;refine⟨Zx sys l ov at' un b,(by delta Zx;exact wk),rfl,jt rfl (gO ?_)⟩;delta Zx;cases b with
  |false=>refine iE ?_;exact⟨D1 sys l ov at' un,(by delta D1;exact wk),rfl,.inr rfl,.inr rfl⟩
  |true=>refine iE ?_;exact⟨D1 sys l ov at' un,(by delta D1;exact wk),rfl,hnext _ ys' hys' _ .refl⟩
 ·refine⟨[.d (.lit (.func (.yield l) #[] #[])),.pv [gS 1 iD sys.1,gS 2 gP sys.2],.gW,.d (iD (ov:Int)),.pv [gS 1 iD (sys.2.getD ov default).1,gS 1 iD (sys.2.getD ov default).2],.d (iD (at':Int)),.d (iD ((sys.2.getD ov default).1.getD at' default)),.d (iD (un:Int)),.gW,.d (bD false),.gW,.d (gS 2 gP sys.2),.d (iD (sys.2.length:Int)),.d (iD (ov:Int))]++List.replicate 5 .gW++[.d (gS 1 iD (sys.2.getD ov default).1),.d (iD ((sys.2.getD ov default).1.length:Int)),.d (iD (at':Int))]++List.replicate 5 .gW++[.d (gS 2 gP sys.2),.d (iD (sys.2.length:Int)),.d (iD (un:Int))]++List.replicate 25 .gW,(ij.drop 200000 gN).trans wk,rfl,ku (jt rfl (gO ?_))⟩;refine iE ?_;refine⟨[.d (.lit (.func (.yield l) #[] #[])),.pv [gS 1 iD sys.1,gS 2 gP sys.2],.gW,.d (iD (ov:Int)),.pv [gS 1 iD (sys.2.getD ov default).1,gS 1 iD (sys.2.getD ov default).2],.d (iD (at':Int)),.d (iD ((sys.2.getD ov default).1.getD at' default))]++List.replicate 4 .gW++[.d (gS 2 gP sys.2),.d (iD (sys.2.length:Int)),.d (iD (ov:Int))]++List.replicate 5 .gW++[.d (gS 1 iD (sys.2.getD ov default).1),.d (iD ((sys.2.getD ov default).1.length:Int)),.d (iD (at':Int))]++List.replicate 5 .gW++[.d (gS 2 gP sys.2),.d (iD (sys.2.length:Int)),.d (iD (un:Int))]++List.replicate 21 .gW++[.d (bD false),.gW,.gW,.gW],wk,rfl,jt rfl (gO ?_)⟩;refine iE ?_;exact⟨D1 sys l ov at' un,(by delta D1;exact wk),rfl,hnext _ ys h _ .refl⟩
def tD(sys:Fg):Option Unit:=some ()
instance Ls{sys:Fg}:iH (tD sys) fun _=>h_ Tryz.prog 66 [.d (ia sys)] [] 0 fun xx ss=>xx=.fn 91 [] [.pv [gS 1 iD sys.1,gS 2 gP sys.2]]/\ss=[]:=⟨@fun rr h=>by
 have h1:h_ Tryz.prog 66 [.d (ia sys)] [] 0 fun xx ss=>xx=.fn 91 [] [.ptr 1 0]/\ss=(1,.obj 33 ([gS 1 iD sys.1,gS 2 gP sys.2].map .d))::[]:=by
  refine YR.mm (gO ?_);delta W8;refine iE ?_;exact⟨[],by simp,oG⟩
 exact h1.ZJ rfl rfl rfl⟩
end Go.Proofs.YtjgbnaihpicpgaaGreatDoor
namespace Go.Proofs.YtjgbnaihpicpgaaGreatDoor
open Go lY
attribute [local irreducible] rA vi uM lW lP ng jX Ak Bj yP Bi yF tw lK nO A7 iG kj
set_option maxHeartbeats 4000000
set_option maxRecDepth 4000
def WK:gV:=
 (.seq (.gQ (sq 1 [bo 1 33 0,.alloc 2 44 [.sl 0 (some true) []],.alloc 3 4 [.lit (.bool false)]])) (.seq (.gQ (sq 4 [.alloc 4 44 [.sl 0 (some true) []]])) (.seq (.seq (.gQ (sq 8 [la 2 1,cf 66 [8]])) (.block 0 (.Dv (t0 9) [10] (.gQ (sq 5 [.alloc 5 112 [.lit (.int .i64 0),.lit (.int .i64 0),.lit (.int .i64 0)]]++s0 (sr 3 5 10))) (.block 1 (.seq (.gQ (sq 12 [la 2 1,fa 0 5,ld 13,fa 1 5,ld 15,fa 2 5,ld 17,cf 67 [12,14,16,18]]++sq 11 [mv 19]++sq 20 [ex 11 0,ex 11 1]++sq 6 [.alloc 6 54 [.sl 0 (some true) [],.sl 0 (some true) [],.sl 0 (some true) [],.lit (.int .i64 0),.lit (.int .i64 0),.lit (.int .i64 0)]]++s0 (sr 6 6 20)++sq 7 [mv 21])) (.seq (.seq (.gQ (sq 22 [mv 7,nt 22,mv 23]++sg 24 false 25 [ld 4,ln 25,bi .eql 26 64]++sq 28 [po 24 27])) (.cond (t0 28) (.seq (.gQ (s0 (.store 1 (t0 2) (.const (.slice none 0 0)))++s0 (.store 1 (t0 3) (.const (.bool false))))) .ret) .skip)) (.gQ (sq 29 [ld 4,la 6 6,.pF 31 54 6 [(t0 30)],ap 32 54 6 96 29 31]++s0 (sr 1 4 32))))))))) (.seq (.gQ (sq 33 [ld 4]++s0 (sr 1 2 33)++s0 (.store 1 (t0 3) (.const (.bool true))))) .ret))))
theorem YC:jV Tryz.prog 34 WK 34 [.cell 2 1 false,.cell 3 1 false]:=mf Tryz.func34 Tryz.ntmps34
def lS(sys:gC)(els:(List gB)):(Nat×gy)->Option ((Nat×gy)⊕(gy×Bool))
 |(jj,out)=>
  if jj<els.length then
   (mu sys ((els.getD jj default).1) ((els.getD jj default).2.1) ((els.getD jj default).2.2)).bind fun r_1=>
   if r_1.2=true then
    if((out.length:Int)==64)=true then
     Option.map Sum.inr (
      some ([],false))
    else
     if(out.length+1)*96<=140737488355328 then
      some (.inl (jj+1,(out++[r_1.1])))
     else none
   else
    Option.map Sum.inr (
     some ([],false))
  else
   Option.map Sum.inr (
    some (out,true))
def rJ(sys:gC):Option (gy×Bool):=
 (tD sys).bind fun r=>
 (Ao sys).bind fun els=>
 g_ (lS sys els) (0,[])
instance Pq{sys:gC}:iH (rJ sys) fun rr=>oF Tryz.prog 34 [ia sys] [(gS 6 jz) rr.1,bD rr.2]:=⟨@fun rr h=>by
 delta rJ at h;refine YC.pG (gO ?_);delta WK;refine iE ?_;refine vf [] [] h fun r hr h=>?_
 obtain⟨els,hels,h⟩:=ai.1 h;refine T4 (xs:=els) h (F5 hels) 5 (fun pp=>[(1,.obj 33 [.d (gS 1 iD sys.1),.d (gS 2 gP sys.2)]),(2,.obj 44 [.d (.sl 0 (some true) [])]),(3,.obj 4 [.d (bD false)]),(4,.obj 44 [.own 6 32 (List.map jz pp)]),(32,.tok 54 6 pp.length)]) ?_ ?_ ?_
 ·try dsimp only
  refine(ij.wh 4 0 32 54 6 rfl rfl rfl).trans ?_;exact wk
 ·rintro jj out t1 hj h hb1;unfold lS at h;try dsimp only at h
  rw[ah hj]at h;refine iE ?_;refine QI h fun r_1 hr_1 h=>?_
  refine it h (fun hc1 h=>?_) fun hc1 h=>?_
  ·refine it h (fun hc2 h=>?_) fun hc2 h=>?_
   ·refine LS.of (s2:=[(1,.obj 33 [.d (gS 1 iD sys.1),.d (gS 2 gP sys.2)]),(2,.obj 44 [.d (.sl 0 (some true) [])]),(3,.obj 4 [.d (bD false)]),(4,.obj 44 [.d (gS 6 jz out)])]) ((ij.drop 5 gN).trans ((ij.drop 6 gN).trans ((ij.drop 32 gN).trans (wk (iG.refl _))))) ?_;refine iE ?_;exact nr
   refine jG h fun hp h=>?_
   cases h;refine⟨_,rfl,?_⟩;exact⟨_,(ij.drop 5 gN).trans ((ij.drop 6 gN).trans ((ij.drop 31 gN).trans (wk (iG.refl _))))⟩
  refine LS.of (s2:=[(1,.obj 33 [.d (gS 1 iD sys.1),.d (gS 2 gP sys.2)]),(2,.obj 44 [.d (.sl 0 (some true) [])]),(3,.obj 4 [.d (bD false)]),(4,.obj 44 [.d (gS 6 jz out)])]) ((ij.drop 5 gN).trans ((ij.drop 6 gN).trans ((ij.drop 32 gN).trans (wk (iG.refl _))))) ?_;refine iE ?_;exact nr
 ·rintro out t1 h hb1;unfold lS at h;try dsimp only at h
  rw[ak (eB _)]at h;refine iE ?_;exact nr⟩
end Go.Proofs.YtjgbnaihpicpgaaGreatDoor
