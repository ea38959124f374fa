/- A part of the proof about FnOneForm (H4). -/
import Derived.Test.YtjgbnaihpicpgaaGreatOf
import Derived.Test.YtjgbnaihpicpgaaGreatOh
import Derived.Test.YtjgbnaihpicpgaaGreatOi
set_option linter.all false
noncomputable section
namespace Go.Proofs.YtjgbnaihpicpgaaGreat
open Go ng
attribute [local irreducible] uh wo vz mL mC ot kQ Be Cb zM Ca zD uj mu og BY iY lg
set_option maxHeartbeats 4000000
set_option maxRecDepth 4000
def nM:ir:=
 (.seq (.ie (sq 2 [.mv (.const (.slice none 0 0))])) (.seq (.seq (.ie (sq 3 [mv 0,.uK false (t0 3)])) (.cond (t0 4) (.seq (.ie (sq 2 [.mv (.const (.slice none 0 0))])) .ret) .skip)) (.seq (.ie (sq 5 [.zu 5 2 1 [],mv 0,ap 7 2 1 8 5 6]++sq 2 [mv 7])) .ret)))
theorem sF:kS Tryz.prog 133 nM 8 [.tmp 2]:=mf Tryz.func133 Tryz.ntmps133
def ja(s:gB):Option gB:=
 KQ s (
  some []) (
  if(0+s.length)*8<=140737488355328 then
   some s
  else none)
instance BT{s:gB}:iU (ja s) fun rr=>iH Tryz.prog 133 [.d (iq 1 iD s)] [] 0 fun xx ss=>xx=.mX 1 900000 rr.length/\ss=[(900000,.kU 2 1 rr.length (kT iD rr))]:=⟨@fun rr h=>by
 delta ja at h;refine sF.If (ia ?_);delta nM;refine iR ?_;have h1:=F1 h;refine uj.of (fun he=>?_) ?_
 ·replace h:=h1.1 (by simpa using he);clear h1;refine iR ?_;cases h;exact jA.trans ((jA.YR 900000 2 1 (.mX 1 900000 0) (by simp[sat]) (by repeat' (first|exact TL.nil|refine TL.mB ?_|refine TL.Y9 ?_|refine TL.agg ?_|refine PE.cons ?_ ?_|exact PE.nil|exact TL.refl)))) (jA.told Ee lM)
 ·replace h:=h1.2;clear h1;refine iR ?_;refine kz h fun hp h=>?_
  cases h;exact jA.trans ((jA.move 5 900000 (ob:=.kU 2 1 s.length (kT iD s)) h_ h_ h_ rfl (by first|rfl|(simp;done)|(simp[sat,vV,sset,jD,zA,wZ,Ob.lq,Ob.kill,sd];done)))) (jA.told Ee lM)⟩
def Tv:ir:=
 (.seq (.ie (sq 2 [.mv (.const (.slice none 0 0))])) (.seq (.ie (sq 6 [mv 0,cf 133 [6]]++sq 3 [mv 7])) (.seq (.seq (.ie (sq 8 [mv 3,ln 8,mi 0])) (.block 0 (.loop (.seq (.ie (sq 11 [bn .lss 10 9])) (.seq (.cond (t0 11) .skip (.exit 0)) (.seq (.block 1 (.seq (.ie (sq 12 [mv 10,ix 1 8 10,ld 13]++sq 4 [mv 12,mv 14])) (.seq (.ie (sq 15 [mv 5,bi .lss 15 0])) (.cond (t0 16) (.ie (sq 17 [mv 3,mv 4,mv 5,bi .sub 19 24,ix 1 17 18]++s0 (sr 1 21 20))) .skip)))) (.ie (sq 22 [bi .add 10 1]++sq 10 [mv 22])))))))) (.seq (.ie (sq 23 [mv 3]++sq 2 [mv 23])) .ret))))
theorem W8:kS Tryz.prog 168 Tv 24 [.tmp 2]:=mf Tryz.func168 Tryz.ntmps168
def sK(r:gB):(Int×gB)->Option ((Int×gB)⊕gB)
 |(v10,g7)=>
  if(decide (v10<(r.length:Int)))=true then
   if 0<=v10/\v10<(g7.length:Int)then
    if(decide ((g7.getD v10.toNat default)<0))=true then
     some (.inl ((IntKind.i64.wrap (v10+1)),(g7.set v10.toNat (IntKind.i64.wrap ((g7.getD v10.toNat default)-24)))))
    else
     some (.inl ((IntKind.i64.wrap (v10+1)),g7))
   else none
  else
   Option.map Sum.inr (
    some g7)
def mj(t:gB):Option gB:=
 (ja t).bind fun r=>
 iB (sK r) (0,r)
instance SE{t:gB}:iU (mj t) fun rr=>jW Tryz.prog 168 [(iq 1 iD) t] ((iq 1 iD) rr):=⟨@fun rr h=>by
 delta mj at h;refine W8.T6 (ia ?_);delta Tv;refine iR ?_;refine qC [] [(900000,7)] h fun r hr h=>?_
 refine kA h [3,4,5,8,10,11,12,13,14,15,16,17,18,19,20,21,22] (fun pp=>[(10,.d (iD pp.1)),(3,.mX 1 7 pp.2.length),(8,.mX 1 7 pp.2.length)]) (fun pp=>[(7,.kU 2 1 pp.2.length (kT iD pp.2))]) ?_;rintro⟨v10,g7⟩ t1 h hb1;unfold sK at h;try dsimp only at h
 refine ia (iR ?_);refine iF h fun hc1 h=>?_
 replace h:=jf h hb1;cases h;exact⟨_,_,(jA.fz 7 iD rfl rr),Ee⟩⟩
def vk:ir:=
 (.seq (.ie (sq 4 [bo 4 32 0]++sq 8 [.mv (.const (.pointer none)),mb false])) (.seq (.seq (.ie (sq 11 [mv 1,mv 3,bn .eql 11 12,mv 13]++sg 14 true 15 [mv 2,bi .eql 15 0]++sq 17 [pa 14 16])) (.cond (t0 17) (.seq (.ie (sq 8 [.mv (.const (.pointer none)),mb false])) .ret) .skip)) (.seq (.ie (sq 18 [fa 0 4,la 1 18,.build [.sl 0 (some true) [],.sl 0 (some true) [],.sl 0 (some true) [],.sl 0 (some true) [],.sl 0 (some true) [],.sl 0 (some true) [],.sl 0 (some true) [],.sl 0 (some true) [],.sl 0 (some true) [],.sl 0 (some true) [],.sl 0 (some true) [],.sl 0 (some true) [],.sl 0 (some true) [],.sl 0 (some true) [],.sl 0 (some true) [],.sl 0 (some true) [],.sl 0 (some true) [],.sl 0 (some true) [],.sl 0 (some true) [],.sl 0 (some true) [],.sl 0 (some true) [],.sl 0 (some true) [],.sl 0 (some true) [],.sl 0 (some true) [],.sl 0 (some true) [],.sl 0 (some true) [],.sl 0 (some true) [],.sl 0 (some true) [],.sl 0 (some true) [],.sl 0 (some true) [],.sl 0 (some true) [],.sl 0 (some true) [],.sl 0 (some true) [],.sl 0 (some true) [],.sl 0 (some true) [],.sl 0 (some true) [],.sl 0 (some true) [],.sl 0 (some true) [],.sl 0 (some true) [],.sl 0 (some true) [],.sl 0 (some true) [],.sl 0 (some true) [],.sl 0 (some true) [],.sl 0 (some true) [],.sl 0 (some true) [],.sl 0 (some true) [],.sl 0 (some true) [],.sl 0 (some true) [],.sl 0 (some true) []] [(0,1,(t0 19))],bo 21 245 20]++sq 10 [mv 21])) (.seq (.ghost (.draw (sq 22 [mv 10,mv 10,fa 0 4,la 1 24,fa 1 4,ld 26,mv 1,ix 2 27 28,fa 0 29,ld 30,mv 2,cf 95 [25,31,32],fa 1 4,ld 34,mv 3,ix 2 35 36,fa 0 37,ld 38,cf 168 [39],cf 208 [23,33,40]]++sq 8 [mv 22,mv 41]) [[],[],[],[2],[],[4],[],[5,6],[7],[8],[],[3,9,10],[],[12],[],[13,14],[15],[16],[17,11],[1,11,18,18],[0,19,0],[19,20,0,1,2,3,4,5,6,7,8,9,10,11,12,13,14,15,16,17,18,19,20]])) .ret))))
theorem Ac:kS Tryz.prog 166 vk 42 [.tmp 8,.tmp 9]:=mf Tryz.func166 Tryz.ntmps166
def jq(sys:gR)(over:Int)(iS:Int)(under:Int):Option ((gB×gE)⊕Unit):=
 if(over==under)=true then
  if(iS==0)=true then
   some (.inr ())
  else
   if 0<=over/\over<(sys.2.length:Int)then
    (jX sys.1 ((sys.2.getD over.toNat default).1) iS).bind fun r=>
    if 0<=under/\under<(sys.2.length:Int)then
     (mj ((sys.2.getD under.toNat default).1)).bind fun r_1=>
     (mm r r_1 sys.1 (List.replicate 48 [])).bind fun r_2=>
     if r_2.1=true then
      some (.inl (sys.1,r_2.2))
     else
      some (.inr ())
    else none
   else none
 else
  if 0<=over/\over<(sys.2.length:Int)then
   (jX sys.1 ((sys.2.getD over.toNat default).1) iS).bind fun r_3=>
   if 0<=under/\under<(sys.2.length:Int)then
    (mj ((sys.2.getD under.toNat default).1)).bind fun r_4=>
    (mm r_3 r_4 sys.1 (List.replicate 48 [])).bind fun r_5=>
    if r_5.1=true then
     some (.inl (sys.1,r_5.2))
    else
     some (.inr ())
   else none
  else none
instance M8{sys:gR}{over:Int}{iS:Int}{under:Int}:iU (jq sys over iS under) fun rr=>iH Tryz.prog 166 [.d (.agg [iq 1 iD sys.1,iq 2 ic sys.2]),.d (iD over),.d (iD iS),.d (iD under)] [] 0 fun xx ss=>xx=Sum.elim (fun rr:(gB×gE)=>.mB [.ptr 21 0,.d (bD true)]) (fun rr:Unit=>.mB [.iG,.d (bD false)]) rr/\ss=Sum.elim (fun rr:(gB×gE)=>[(21,.obj 245 ((.d (iq 1 iD rr.1))::List.map (aD (oz 1 iD)) rr.2))]) (fun rr:Unit=>[]) rr:=⟨@fun rr h=>by
 delta jq at h;refine Ac.kL (ia ?_);delta vk;refine iR ?_;refine it h (fun hc1 h=>?_) fun hc1 h=>?_
 ·refine it h (fun hc2 h=>?_) fun hc2 h=>?_
  ·cases h;exact⟨[4],by simp,lM,lM⟩
  refine kQ.of ((iV.V0 (s':=[(4,.obj 32 [.d (iq 1 iD sys.1),.d (iq 2 ic sys.2)]),(21,.obj 245 ((.d (iq 1 iD sys.1))::List.map (aD (oz 1 iD)) (List.replicate 48 [])))]) (iY.refl _) lM)) ?_;refine iR ?_;refine kz h fun hp h=>?_
  refine dC h fun r hr h=>?_
  refine kz h fun hp h=>?_
  refine dC h fun r_1 hr_1 h=>?_
  refine ND [(0,21)] [] h fun r_2 hr_2 h=>?_
  refine jM (by kernel_rfl) (iR ?_);refine it h (fun hc3 h=>?_) fun hc3 h=>?_
  ·cases h;exact⟨[4],by simp,lM,lM⟩
  cases h;exact⟨[4,21],by simp,lM,lM⟩
 refine kQ.of ((iV.V0 (s':=[(4,.obj 32 [.d (iq 1 iD sys.1),.d (iq 2 ic sys.2)]),(21,.obj 245 ((.d (iq 1 iD sys.1))::List.map (aD (oz 1 iD)) (List.replicate 48 [])))]) (iY.refl _) lM)) ?_;refine iR ?_;refine kz h fun hp h=>?_
 refine dC h fun r_3 hr_3 h=>?_
 refine kz h fun hp h=>?_
 refine dC h fun r_4 hr_4 h=>?_
 refine ND [(0,21)] [] h fun r_5 hr_5 h=>?_
 refine jM (by kernel_rfl) (iR ?_);refine it h (fun hc4 h=>?_) fun hc4 h=>?_
 ·cases h;exact⟨[4],by simp,lM,lM⟩
 cases h;exact⟨[4,21],by simp,lM,lM⟩⟩
def Tu:ir:=
 (.seq (.ie (sq 6 [.mv (.const (.slice none 0 0)),mb false])) (.seq (.seq (.ie (sq 11 [mv 2,ln 11,mi 0])) (.block 0 (.loop (.seq (.ie (sq 14 [bn .lss 13 12])) (.seq (.cond (t0 14) .skip (.exit 0)) (.seq (.block 1 (.seq (.ie (sq 15 [ix 1 11 13,ld 15]++sq 9 [mv 16])) (.seq (.seq (.ie (sq 17 [mv 9,bi .lss 17 0,mv 18]++sg 19 true 20 [mv 0,mv 9,.bin .sub (i0 (-1)) (t0 21),.mE (t0 20),fa 1 23,.xu 1 48 (t0 24) (t0 22),ld 25,.uK true (t0 26)]++sq 28 [pa 19 27])) (.cond (t0 28) (.seq (.ie (sq 10 [mb false])) (.seq (.seq (.ie (sq 30 [mv 0,mv 1,mv 0,mv 9,.bin .sub (i0 (-1)) (t0 33),.mE (t0 32),fa 1 35,.xu 1 48 (t0 36) (t0 34),ld 37,cf 167 [30,31,38]]++sq 29 [mv 39]++sq 40 [ex 29 0,ex 29 1]++sq 1 [mv 40]++sq 10 [mv 41])) (.seq (.ie (sq 42 [mv 10,nt 42])) (.cond (t0 43) (.seq (.ie (sq 6 [.mv (.const (.slice none 0 0)),mb false])) .ret) .skip))) (.exit 1))) .skip)) (.seq (.seq (.ie (sq 44 [mv 1,ln 44,bi .eql 45 60])) (.cond (t0 46) (.seq (.ie (sq 6 [.mv (.const (.slice none 0 0)),mb false])) .ret) .skip)) (.ie (sq 47 [mv 1,mv 9,.mD 49 2 1 [(t0 48)],ap 50 2 1 8 47 49]++sq 1 [mv 50])))))) (.ie (sq 51 [bi .add 13 1]++sq 13 [mv 51])))))))) (.seq (.ie (sq 52 [mv 1]++sq 6 [mv 52,mb true])) .ret)))
theorem W0:kS Tryz.prog 167 Tu 53 [.tmp 6,.tmp 7]:=mf Tryz.func167 Tryz.ntmps167
def nN(rec:gB->gB->gB->gE->Option (gB⊕gD))(t:gB)(u0:gB)(ul:gE):gU->Option (gU⊕(gB⊕gD))
 |(out_1,v13)=>
  if(decide (v13<(t.length:Int)))=true then
   if 0<=v13/\v13<(t.length:Int)then
    if(decide ((t.getD v13.toNat default)<0))=true then
     if 0<=(IntKind.i64.wrap ((-1)-(t.getD v13.toNat default)))/\(IntKind.i64.wrap ((-1)-(t.getD v13.toNat default)))<48/\(IntKind.i64.wrap ((-1)-(t.getD v13.toNat default)))<(ul.length:Int)then
      if(ul.getD (IntKind.i64.wrap ((-1)-(t.getD v13.toNat default))).toNat default).isEmpty=true then
       if((out_1.length:Int)==60)=true then
        Option.map Sum.inr (
         some (.inr ([],out_1)))
       else
        if(out_1.length+1)*8<=140737488355328 then
         some (.inl ((out_1++[(t.getD v13.toNat default)]),(IntKind.i64.wrap (v13+1))))
        else none
      else
       (rec out_1 (ul.getD (IntKind.i64.wrap ((-1)-(t.getD v13.toNat default))).toNat default) u0 ul).bind (Sum.elim (fun rt=>
        some (.inl (rt,(IntKind.i64.wrap (v13+1))))) (fun rf=>
        Option.map Sum.inr (
         some (.inr ([],rf.2)))))
     else none
    else
     if((out_1.length:Int)==60)=true then
      Option.map Sum.inr (
       some (.inr ([],out_1)))
     else
      if(out_1.length+1)*8<=140737488355328 then
       some (.inl ((out_1++[(t.getD v13.toNat default)]),(IntKind.i64.wrap (v13+1))))
      else none
   else none
  else
   Option.map Sum.inr (
    some (.inl out_1))
def kj:Nat->gB->gB->gB->gE->Option (gB⊕gD)
 |0,_,_,_,_=>none
 |fu+1,out,t,u0,ul=>
  iB (nN (kj fu) t u0 ul) (out,0)
def nu(out:gB)(t:gB)(u0:gB)(ul:gE):Option (gB⊕gD):=AL fun fu=>kj fu out t u0 ul
theorem sZ:∀{fu:Nat}{out:gB}{t:gB}{u0:gB}{ul:gE}{rr:(gB⊕gD)}(h:kj fu out t u0 ul=some rr),iH Tryz.prog 167 [.ptr 0 0,.own 1 1 (List.map iD out),.d (iq 1 iD t)] [(0,.obj 245 ((.d (iq 1 iD u0))::List.map (aD (oz 1 iD)) ul)),(1,.tok 2 1 out.length)] 2 fun xx ss=>xx=Sum.elim (fun rr:gB=>.mB [.own 1 1 (List.map iD rr),.d (bD true)]) (fun rr:gD=>.mB [.d (iq 1 iD rr.1),.d (bD false)]) rr/\ss=Sum.elim (fun rr:gB=>[(0,.obj 245 ((.d (iq 1 iD u0))::List.map (aD (oz 1 iD)) ul)),(1,.tok 2 1 rr.length)]) (fun rr:gD=>[(0,.obj 245 ((.d (iq 1 iD u0))::List.map (aD (oz 1 iD)) ul)),(1,.tok 2 1 rr.2.length)]) rr
 |0,_,_,_,_,_,h=>by cases h
 |fu+1,out,t,u0,ul,rr,h=>by
  have ih:∀{out:gB}{t:gB}{u0:gB}{ul:gE},iU (kj fu out t u0 ul) fun rr=>iH Tryz.prog 167 [.ptr 0 0,.own 1 1 (List.map iD out),.d (iq 1 iD t)] [(0,.obj 245 ((.d (iq 1 iD u0))::List.map (aD (oz 1 iD)) ul)),(1,.tok 2 1 out.length)] 2 fun xx ss=>xx=Sum.elim (fun rr:gB=>.mB [.own 1 1 (List.map iD rr),.d (bD true)]) (fun rr:gD=>.mB [.d (iq 1 iD rr.1),.d (bD false)]) rr/\ss=Sum.elim (fun rr:gB=>[(0,.obj 245 ((.d (iq 1 iD u0))::List.map (aD (oz 1 iD)) ul)),(1,.tok 2 1 rr.length)]) (fun rr:gD=>[(0,.obj 245 ((.d (iq 1 iD u0))::List.map (aD (oz 1 iD)) ul)),(1,.tok 2 1 rr.2.length)]) rr:=⟨fun h=>sZ h⟩
  unfold kj at h;refine W0.kL (ia ?_);delta Tu;refine iR ?_;refine kA h [1,6,7,9,10,13,14,15,16,17,18,19,20,21,22,23,24,25,26,27,28,29,30,31,32,33,34,35,36,37,38,39,40,41,42,43,44,45,46,47,48,49,50,51] (fun pp=>[(1,.own 1 1 (List.map iD pp.1)),(13,.d (iD pp.2))]) (fun pp=>[(0,.obj 245 ((.d (iq 1 iD u0))::List.map (aD (oz 1 iD)) ul)),(1,.tok 2 1 pp.1.length)]) ?_;rintro⟨out_1,v13⟩ t1 h hb1;unfold nN at h;try dsimp only at h
  refine ia (iR ?_);refine iT h fun hc1 h=>?_
  refine kz h fun hp h=>?_
  refine it h (fun hc2 h=>?_) fun hc2 h=>?_
  ·refine kz h fun hp h=>?_
   refine it h (fun hc3 h=>?_) fun hc3 h=>?_
   ·refine iF h fun hc4 h=>?_
    refine kz h fun hp h=>?_
    cases h;refine⟨_,rfl,?_⟩;refine(iV.drop 49 h_).trans ?_;exact wk
   refine qa ?_;refine DF [(0,0),(1,1)] [] h (fun rt hrt h=>?_) fun rf hrf h=>?_
   ·exact lP
   exact lP
  refine iF h fun hc5 h=>?_
  refine kz h fun hp h=>?_
  cases h;refine⟨_,rfl,?_⟩;refine(iV.drop 49 h_).trans ?_;exact wk
instance CV{out:gB}{t:gB}{u0:gB}{ul:gE}:iU (nu out t u0 ul) fun rr=>iH Tryz.prog 167 [.ptr 0 0,.own 1 1 (List.map iD out),.d (iq 1 iD t)] [(0,.obj 245 ((.d (iq 1 iD u0))::List.map (aD (oz 1 iD)) ul)),(1,.tok 2 1 out.length)] 2 fun xx ss=>xx=Sum.elim (fun rr:gB=>.mB [.own 1 1 (List.map iD rr),.d (bD true)]) (fun rr:gD=>.mB [.d (iq 1 iD rr.1),.d (bD false)]) rr/\ss=Sum.elim (fun rr:gB=>[(0,.obj 245 ((.d (iq 1 iD u0))::List.map (aD (oz 1 iD)) ul)),(1,.tok 2 1 rr.length)]) (fun rr:gD=>[(0,.obj 245 ((.d (iq 1 iD u0))::List.map (aD (oz 1 iD)) ul)),(1,.tok 2 1 rr.2.length)]) rr:=⟨fun h=>sZ (qO h).choose_spec⟩
def jb(t:gB)(u0:gB)(ul:gE):Option (gB⊕gD):=nu [] t u0 ul
instance Eb{t:gB}{u0:gB}{ul:gE}:iU (jb t u0 ul) fun rr=>iH Tryz.prog 167 [.ptr 0 0,.d (.sl 0 (some true) []),.d (iq 1 iD t)] [(0,.obj 245 ((.d (iq 1 iD u0))::List.map (aD (oz 1 iD)) ul))] 1 fun xx ss=>xx=Sum.elim (fun rr:gB=>.mB [.own 1 1 (List.map iD rr),.d (bD true)]) (fun rr:gD=>.mB [.d (iq 1 iD rr.1),.d (bD false)]) rr/\ss=Sum.elim (fun rr:gB=>[(0,.obj 245 ((.d (iq 1 iD u0))::List.map (aD (oz 1 iD)) ul)),(1,.tok 2 1 rr.length)]) (fun rr:gD=>[(0,.obj 245 ((.d (iq 1 iD u0))::List.map (aD (oz 1 iD)) ul)),(1,.tok 2 1 rr.2.length)]) rr:=⟨fun h=>iH.Ve 1 1 2 1 rfl rfl (iU.c (x:=nu [] t u0 ul) h)⟩
def Tw:ir:=
 (.seq (.ie (sq 6 [mi 0])) (.seq (.ie (sq 10 [mv 0,mv 1,mv 2,.slc (t0 11) 1 none (some (t0 12)) none,.ke 167 [(t0 10),(.const (.slice none 0 0)),(t0 13)]]++sq 9 [mv 14]++sq 15 [ex 9 0,ex 9 1]++sq 7 [mv 15,mv 16])) (.seq (.ie (sq 17 [mv 7,ln 17]++sq 6 [mv 18])) .ret)))
theorem W9:kS Tryz.prog 169 Tw 19 [.tmp 6]:=mf Tryz.func169 Tryz.ntmps169
def lC(t:gB)(iS:Int)(u0:gB)(ul:gE):Option Int:=
 if 0<=iS/\iS<=(t.length:Int)then
  (jb (t.take iS.toNat) u0 ul).bind (Sum.elim (fun rt=>
   some (rt.length:Int)) (fun rf=>
   some (rf.1.length:Int)))
 else none
instance EZ{t:gB}{iS:Int}{u0:gB}{ul:gE}:iU (lC t iS u0 ul) fun rr=>iH Tryz.prog 169 [.ptr 0 0,.d (iq 1 iD t),.d (iD iS)] [(0,.obj 245 ((.d (iq 1 iD u0))::List.map (aD (oz 1 iD)) ul))] 1 fun xx ss=>xx=.d (iD rr)/\ss=[(0,.obj 245 ((.d (iq 1 iD u0))::List.map (aD (oz 1 iD)) ul))]:=⟨@fun rr h=>by
 delta lC at h;refine W9.kL (ia ?_);delta Tw;refine iR ?_;refine kz h fun hp h=>?_
 refine DF [(0,0)] [(1,14)] h (fun rt hrt h=>?_) fun rf hrf h=>?_
 ·cases h;exact⟨[14],by simp,lM,lM⟩
 cases h;exact⟨[14],by simp,lM,lM⟩⟩
def uM:ir:=
 (.seq (.ie (sq 2 [.mv (.const (.slice none 0 0))])) (.seq (.ie (sq 3 [.mv (.const (.slice none 0 0))])) (.seq (.ie (sq 4 [.mv (.const (.slice none 0 0))])) (.seq (.seq (.ie (sq 11 [mv 0,ln 11,mi 0])) (.block 0 (.loop (.seq (.ie (sq 14 [bn .lss 13 12])) (.seq (.cond (t0 14) .skip (.exit 0)) (.seq (.block 1 (.seq (.ie (sq 15 [ix 1 11 13,ld 15]++sq 6 [mv 16])) (.seq (.ie (sq 17 [mv 6,cf 133 [17]]++sq 7 [mv 18])) (.seq (.seq (.ie (sq 19 [mv 7,ln 19,mi 0])) (.block 2 (.loop (.seq (.ie (sq 22 [bn .lss 21 20])) (.seq (.cond (t0 22) .skip (.exit 2)) (.seq (.block 3 (.seq (.ie (sq 23 [mv 21,ix 1 19 21,ld 24]++sq 8 [mv 23,mv 25])) (.seq (.seq (.ie (sq 26 [mv 9,bi .geq 26 0])) (.cond (t0 27) (.exit 3) .skip)) (.seq (.ie (sq 28 [mv 3,mv 9,cf 207 [28,29]]++sq 10 [mv 30])) (.seq (.seq (.ie (sq 31 [mv 10,bi .lss 31 0])) (.cond (t0 32) (.seq (.ie (sq 33 [mv 3,ln 33]++sq 10 [mv 34])) (.ie (sq 35 [mv 3,mv 9,.mD 37 2 1 [(t0 36)],ap 38 2 1 8 35 37]++sq 3 [mv 38]))) .skip)) (.ie (sq 39 [mv 7,mv 8,mv 10,.bin .sub (i0 (-1)) (t0 41),ix 1 39 40]++s0 (sr 1 43 42)))))))) (.ie (sq 44 [bi .add 21 1]++sq 21 [mv 44])))))))) (.ghost (.ie (sq 45 [mv 4,mv 7,.mD 47 27 1 [(t0 46)],ap 48 27 1 24 45 47]++sq 4 [mv 48]))))))) (.ie (sq 49 [bi .add 13 1]++sq 13 [mv 49])))))))) (.seq (.ie (sq 50 [mv 4]++sq 2 [mv 50])) .ret)))))
theorem zx:kS Tryz.prog 170 uM 51 [.tmp 2]:=mf Tryz.func170 Tryz.ntmps170
def nr(out:gE)(v13:Int)(r:gB):(gB×Int×gB)->Option ((gB×Int×gB)⊕((gB×gE×Int)⊕gE))
 |(seen_1,v21,g18)=>
  if(decide (v21<(r.length:Int)))=true then
   if 0<=v21/\v21<(g18.length:Int)then
    if(decide (0<=(g18.getD v21.toNat default)))=true then
     some (.inl (seen_1,(IntKind.i64.wrap (v21+1)),g18))
    else
     (jd seen_1 (g18.getD v21.toNat default)).bind fun r_1=>
     if(decide (r_1<0))=true then
      if(seen_1.length+1)*8<=140737488355328 then
       some (.inl ((seen_1++[(g18.getD v21.toNat default)]),(IntKind.i64.wrap (v21+1)),(g18.set v21.toNat (IntKind.i64.wrap ((-1)-(seen_1.length:Int))))))
      else none
     else
      some (.inl (seen_1,(IntKind.i64.wrap (v21+1)),(g18.set v21.toNat (IntKind.i64.wrap ((-1)-r_1)))))
   else none
  else
   Option.map Sum.inr (
    if(out.length+1)*24<=140737488355328 then
     some (.inl (seen_1,(out++[g18]),(IntKind.i64.wrap (v13+1))))
    else none)
def nk(ts:gE):(gB×gE×Int)->Option ((gB×gE×Int)⊕gE)
 |(seen,out,v13)=>
  if(decide (v13<(ts.length:Int)))=true then
   if 0<=v13/\v13<(ts.length:Int)then
    (ja (ts.getD v13.toNat default)).bind fun r=>
    iB (nr out v13 r) (seen,0,r)
   else none
  else
   Option.map Sum.inr (
    some out)
def pP(ts:gE):Option gE:=
 iB (nk ts) ([],[],0)
instance Mn{ts:gE}:iU (pP ts) fun rr=>jW Tryz.prog 170 [(iq 1 (iq 1 iD)) ts] ((iq 1 (iq 1 iD)) rr):=⟨@fun rr h=>by
 delta pP at h;refine zx.jz (ia ?_);delta uM;refine iR ?_;refine xA h [3,4,6,7,8,9,10,13,14,15,16,17,18,19,20,21,22,23,24,25,26,27,28,29,30,31,32,33,34,35,36,37,38,39,40,41,42,43,44,45,46,47,48,49] (fun pp=>[(3,.own 1 38 (List.map iD pp.1)),(4,.own 1 48 (List.map (iq 1 iD) pp.2.1)),(13,.d (iD pp.2.2))]) (fun pp=>[(38,.tok 2 1 pp.1.length),(48,.tok 27 1 pp.2.1.length)]) ?_ ?_
 ·try dsimp only
  refine(iV.VM 3 38 2 1 rfl rfl).trans ?_;refine(iV.VM 4 48 27 1 rfl rfl).trans ?_;exact wk
 rintro⟨seen,out,v13⟩ t1 h hb1;unfold nk at h;try dsimp only at h
 refine ia (iR ?_);refine iT h fun hc1 h=>?_
 refine kz h fun hp h=>?_
 refine qC [] [(900000,18)] h fun r hr h=>?_
 refine kA h [3,7,8,9,10,19,21,22,23,24,25,26,27,28,29,30,31,32,33,34,35,36,37,38,39,40,41,42,43,44] (fun pp=>[(3,.own 1 38 (List.map iD pp.1)),(21,.d (iD pp.2.1)),(7,.mX 1 18 pp.2.2.length),(19,.mX 1 18 pp.2.2.length)]) (fun pp=>[(18,.kU 2 1 pp.2.2.length (kT iD pp.2.2)),(38,.tok 2 1 pp.1.length),(48,.tok 27 1 out.length)]) ?_;rintro⟨seen_1,v21,g18⟩ t2 h hb2;unfold nr at h;try dsimp only at h
 refine ia (iR ?_);refine it h (fun hc2 h=>?_) fun hc2 h=>?_
 ·refine kz h fun hp h=>?_
  refine qa ?_;refine iF h fun hc3 h=>?_
  refine rC h fun r_1 hr_1 h=>?_
  refine iT h fun hc4 h=>?_
  refine kz h fun hp h=>?_
  refine qa ?_;refine qa ?_;cases h;refine⟨_,rfl,?_⟩;refine(iV.drop 37 h_).trans ?_;exact wk
 replace h:=jf h hb2;refine kQ.of ((iV.fz 18 iD rfl g18)) ?_;refine aaq ?_;refine iR ?_;refine kz h fun hp h=>?_
 cases h;refine⟨_,rfl,?_⟩;refine(iV.drop 47 h_).trans ?_;exact wk⟩
def S5:ir:=
 (.seq (.ie (sq 4 [bo 4 32 0]++sq 8 [.alloc 8 44 [.sl 0 (some true) [],.sl 0 (some true) [],.sl 0 (some true) [],.lit (.int .i64 0),.lit (.int .i64 0),.lit (.int .i64 0)],mb false])) (.seq (.ie (sq 22 [la 2 4,mv 1,mv 2,mv 3,cf 166 [22,23,24,25]]++sq 21 [mv 26]++sq 27 [ex 21 0,ex 21 1]++sq 10 [mv 27,mv 28])) (.seq (.seq (.ie (sq 29 [mv 11,nt 29])) (.cond (t0 30) (.seq (.ie (sq 31 [.build [.sl 0 (some true) [],.sl 0 (some true) [],.sl 0 (some true) [],.lit (.int .i64 0),.lit (.int .i64 0),.lit (.int .i64 0)] []]++s0 (sr 6 8 31)++sq 9 [mb false])) .ret) .skip)) (.seq (.ie (sq 32 [fa 1 4,ld 32,mv 1,ix 2 33 34,la 2 35]++sq 12 [.alloc 12 77 [.sl 0 (some true) [],.sl 0 (some true) []]]++s0 (sr 2 12 36))) (.seq (.ie (sq 38 [mv 10,fa 0 12,ld 39,.ke 167 [(t0 38),(.const (.slice none 0 0)),(t0 40)]]++sq 37 [mv 41]++sq 42 [ex 37 0,ex 37 1]++sq 13 [mv 42,mv 43])) (.seq (.ie (sq 45 [mv 10,fa 1 12,ld 46,.ke 167 [(t0 45),(.const (.slice none 0 0)),(t0 47)]]++sq 44 [mv 48]++sq 49 [ex 44 0,ex 44 1]++sq 15 [mv 49,mv 50])) (.seq (.ie (sq 52 [mv 10,fa 1 4,ld 53,mv 3,ix 2 54 55,fa 1 56,ld 57,cf 168 [58],.ke 167 [(t0 52),(.const (.slice none 0 0)),(t0 59)]]++sq 51 [mv 60]++sq 61 [ex 51 0,ex 51 1]++sq 17 [mv 61,mv 62])) (.seq (.seq (.ie (sq 63 [mv 14,nt 63,mv 64]++sg 65 false 66 [mv 16,nt 66]++sq 68 [po 65 67,mv 68]++sg 69 false 70 [mv 18,nt 70]++sq 72 [po 69 71])) (.cond (t0 72) (.seq (.ie (sq 73 [.build [.sl 0 (some true) [],.sl 0 (some true) [],.sl 0 (some true) [],.lit (.int .i64 0),.lit (.int .i64 0),.lit (.int .i64 0)] []]++s0 (sr 6 8 73)++sq 9 [mb false])) .ret) .skip)) (.seq (.draw (sq 75 [fa 0 4,la 1 75,mv 13,mv 10,fa 0 12,ld 79,mv 2,cf 169 [78,80,81],mv 17,cf 128 [76,77,82,83]]++sq 74 [mv 84]++sq 85 [ex 74 0,ex 74 1]++sq 19 [mv 85]++sq 11 [mv 86]) [[],[0],[],[],[],[4],[],[3,5,6],[],[1,2,7,8,7],[9],[10],[10],[11,9,0,1,2,3,4,5,6,7,8,9,10,11],[12,13,0,1,2,3,4,5,6,7,8,9,10,11,12,13]]) (.seq (.seq (.ie (sq 87 [mv 11,nt 87])) (.cond (t0 88) (.seq (.ie (sq 89 [.build [.sl 0 (some true) [],.sl 0 (some true) [],.sl 0 (some true) [],.lit (.int .i64 0),.lit (.int .i64 0),.lit (.int .i64 0)] []]++s0 (sr 6 8 89)++sq 9 [mb false])) .ret) .skip)) (.seq (.ie (sq 90 [mv 13,mv 19,mv 15,.mD 93 27 1 [(t0 90),(t0 91),(t0 92)],cf 170 [93]]++sq 20 [mv 94])) (.seq (.seq (.ie (sq 95 [mv 20,.tG 1 (t0 95) (i0 0),ld 96,cf 171 [97],bi .lss 98 (-24)])) (.cond (t0 99) (.seq (.ie (sq 100 [.build [.sl 0 (some true) [],.sl 0 (some true) [],.sl 0 (some true) [],.lit (.int .i64 0),.lit (.int .i64 0),.lit (.int .i64 0)] []]++s0 (sr 6 8 100)++sq 9 [mb false])) .ret) .skip)) (.seq (.draw (sq 101 [mv 20,.tG 1 (t0 101) (i0 0),ld 102,mv 20,.tG 1 (t0 104) (i0 1),ld 105,mv 20,.tG 1 (t0 107) (i0 2),ld 108,mv 2,mv 3,mv 1,.build [.sl 0 (some true) [],.sl 0 (some true) [],.sl 0 (some true) [],.lit (.int .i64 0),.lit (.int .i64 0),.lit (.int .i64 0)] [(0,1,(t0 103)),(1,1,(t0 106)),(2,1,(t0 109)),(3,1,(t0 110)),(4,1,(t0 111)),(5,1,(t0 112))]]++s0 (sr 6 8 113)++sq 9 [mb true]) [[],[0],[1],[],[3],[4],[],[6],[7],[],[],[],[2,5,8,9,10,11],[12,0,1,2,3,4,5,6,7,8,9,10,11,12],[13,0,1,2,3,4,5,6,7,8,9,10,11,12,13]]) .ret)))))))))))))
theorem Wz:kS Tryz.prog 110 S5 114 [.cell 8 6 true,.tmp 9]:=mf Tryz.func110 Tryz.ntmps110
def mV(sys:gR)(over:Int)(iS:Int)(under:Int):Option (gC×Bool):=
 (jq sys over iS under).bind (Sum.elim (fun rt=>
  if 0<=over/\over<(sys.2.length:Int)then
   (jb ((sys.2.getD over.toNat default).1) rt.1 rt.2).bind (Sum.elim (fun rt_1=>
    (jb ((sys.2.getD over.toNat default).2) rt.1 rt.2).bind (Sum.elim (fun rt_2=>
     if 0<=under/\under<(sys.2.length:Int)then
      (mj ((sys.2.getD under.toNat default).2)).bind fun r=>
      (jb r rt.1 rt.2).bind (Sum.elim (fun rt_3=>
       (lC ((sys.2.getD over.toNat default).1) iS rt.1 rt.2).bind fun r_1=>
       (qm sys.1 rt_1 r_1 rt_3).bind fun r_2=>
       if r_2.2=true then
        (pP [rt_1,r_2.1,rt_2]).bind fun r_3=>
        if 0<=0/\0<(r_3.length:Int)then
         (jU (r_3.getD 0 default)).bind fun r_4=>
         if(decide (r_4<(-24)))=true then
          some (([],[],[],0,0,0),false)
         else
          if 0<=1/\1<(r_3.length:Int)then
           if 0<=2/\2<(r_3.length:Int)then
            some (((r_3.getD 0 default),(r_3.getD 1 default),(r_3.getD 2 default),iS,under,over),true)
           else none
          else none
        else none
       else
        some (([],[],[],0,0,0),false)) (fun rf=>
       some (([],[],[],0,0,0),false)))
     else none) (fun rf_1=>
     if 0<=under/\under<(sys.2.length:Int)then
      (mj ((sys.2.getD under.toNat default).2)).bind fun r_5=>
      (jb r_5 rt.1 rt.2).bind (Sum.elim (fun rt_4=>
       some (([],[],[],0,0,0),false)) (fun rf_2=>
       some (([],[],[],0,0,0),false)))
     else none))) (fun rf_3=>
    (jb ((sys.2.getD over.toNat default).2) rt.1 rt.2).bind (Sum.elim (fun rt_5=>
     if 0<=under/\under<(sys.2.length:Int)then
      (mj ((sys.2.getD under.toNat default).2)).bind fun r_6=>
      (jb r_6 rt.1 rt.2).bind (Sum.elim (fun rt_6=>
       some (([],[],[],0,0,0),false)) (fun rf_4=>
       some (([],[],[],0,0,0),false)))
     else none) (fun rf_5=>
     if 0<=under/\under<(sys.2.length:Int)then
      (mj ((sys.2.getD under.toNat default).2)).bind fun r_7=>
      (jb r_7 rt.1 rt.2).bind (Sum.elim (fun rt_7=>
       some (([],[],[],0,0,0),false)) (fun rf_6=>
       some (([],[],[],0,0,0),false)))
     else none))))
  else none) (fun rf_7=>
  some (([],[],[],0,0,0),false)))
instance PK{sys:gR}{over:Int}{iS:Int}{under:Int}:iU (mV sys over iS under) fun rr=>qV Tryz.prog 110 [iC sys,iD over,iD iS,iD under] [jC rr.1,bD rr.2]:=⟨@fun rr h=>by
 delta mV at h;refine Wz.r_ (ia ?_);delta S5;refine iR ?_;refine DF [] [(21,26)] h (fun rt hrt h=>?_) fun rf_7 hrf_7 h=>?_
 ·refine kz h fun hp h=>?_
  refine DF [(0,26)] [(1,41)] h (fun rt_1 hrt_1 h=>?_) fun rf_3 hrf_3 h=>?_
  ·refine DF [(0,26)] [(1,48)] h (fun rt_2 hrt_2 h=>?_) fun rf_1 hrf_1 h=>?_
   ·refine kz h fun hp h=>?_
    refine rC h fun r hr h=>?_
    refine DF [(0,26)] [(1,60)] h (fun rt_3 hrt_3 h=>?_) fun rf hrf h=>?_
    ·refine ND [(0,26)] [] h fun r_1 hr_1 h=>?_
     exact lP
    exact lP
   refine kz h fun hp h=>?_
   refine rC h fun r_5 hr_5 h=>?_
   refine DF [(0,26)] [(1,60)] h (fun rt_4 hrt_4 h=>?_) fun rf_2 hrf_2 h=>?_
   ·exact lP
   exact lP
  refine DF [(0,26)] [(1,48)] h (fun rt_5 hrt_5 h=>?_) fun rf_5 hrf_5 h=>?_
  ·refine kz h fun hp h=>?_
   refine rC h fun r_6 hr_6 h=>?_
   refine DF [(0,26)] [(1,60)] h (fun rt_6 hrt_6 h=>?_) fun rf_4 hrf_4 h=>?_
   ·exact lP
   exact lP
  refine kz h fun hp h=>?_
  refine rC h fun r_7 hr_7 h=>?_
  refine DF [(0,26)] [(1,60)] h (fun rt_7 hrt_7 h=>?_) fun rf_6 hrf_6 h=>?_
  ·exact lP
  exact lP
 exact lP⟩
end Go.Proofs.YtjgbnaihpicpgaaGreat
