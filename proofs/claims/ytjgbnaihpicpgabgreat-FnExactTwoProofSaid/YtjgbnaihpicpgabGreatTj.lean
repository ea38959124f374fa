/- A part of the proof about FnExactTwoProof (H4, MT, H5). -/
import Derived.Test.YtjgbnaihpicpgabGreatTc
import Derived.Test.YtjgbnaihpicpgabGreatTf
import Derived.Test.YtjgbnaihpicpgabGreatTg
import Derived.Test.YtjgbnaihpicpgabGreatTh
set_option linter.all false
noncomputable section
namespace Go.Proofs.YtjgbnaihpicpgabGreat
open Go oq
attribute [local irreducible] uy zk yt nN mY oR kj C7 D_ BZ D9 Be vL mA oG Dk ju lM
set_option maxHeartbeats 4000000
set_option maxRecDepth 4000
def qv:iJ:=
 (.seq (.iE (sq 2 [.mv (.const (.slice none 0 0))])) (.seq (.seq (.iE (sq 3 [mv 0,.yo false (t0 3)])) (.cond (t0 4) (.seq (.iE (sq 2 [.mv (.const (.slice none 0 0))])) .ret) .skip)) (.seq (.iE (sq 5 [.Dj 5 2 1 [],mv 0,ap 7 2 1 8 5 6]++sq 2 [mv 7])) .ret)))
theorem wG:jV Tryz.prog 64 qv 8 [.tmp 2]:=mf Tryz.func64 Tryz.ntmps64
def jE(s:gI):Option gI:=
 LK s (
  some []) (
  if(0+s.length)*8<=140737488355328 then
   some s
  else none)
instance E0{s:gI}:jf (jE s) fun rr=>iR Tryz.prog 64 [.d (iH 1 iD s)] [] 0 fun xx ss=>xx=.kU 1 900000 rr.length/\ss=[(900000,.lZ 2 1 rr.length (lF iD rr))]:=⟨@fun rr h=>by
 delta jE at h;refine wG.sk (iB ?_);delta qv;refine jd ?_;have h1:=F5 h;refine vL.of (fun he=>?_) ?_
 ·replace h:=h1.1 (by simpa using he);clear h1;refine jd ?_;cases h;exact iV.trans ((iV.Uo 900000 2 1 (.kU 1 900000 0) (by simp[sat]) (by repeat' (first|exact TL.nil|refine TL.kZ ?_|refine TL.Co ?_|refine TL.agg ?_|refine UH.cons ?_ ?_|exact UH.nil|exact TL.refl)))) (iV.told zP nh)
 ·replace h:=h1.2;clear h1;refine jd ?_;refine jZ h fun hp h=>?_
  cases h;exact iV.trans ((iV.move 5 900000 (ob:=.lZ 2 1 s.length (lF iD s)) iA iA iA rfl (by first|rfl|(simp;done)|(simp[sat,lQ,sset,jz,rS,lU,Ob.jY,Ob.kill,jg];done)))) (iV.told zP nh)⟩
def YS:iJ:=
 (.seq (.iE (sq 2 [.mv (.const (.slice none 0 0))])) (.seq (.iE (sq 6 [mv 0,cf 64 [6]]++sq 3 [mv 7])) (.seq (.seq (.iE (sq 8 [mv 3,ln 8,mi 0])) (.block 0 (.loop (.seq (.iE (sq 11 [bn .lss 10 9])) (.seq (.cond (t0 11) .skip (.exit 0)) (.seq (.block 1 (.seq (.iE (sq 12 [mv 10,ix 1 8 10,ld 13]++sq 4 [mv 12,mv 14])) (.seq (.iE (sq 15 [mv 5,bi .lss 15 0])) (.cond (t0 16) (.iE (sq 17 [mv 3,mv 4,mv 5,bi .sub 19 24,ix 1 17 18]++s0 (sr 1 21 20))) .skip)))) (.iE (sq 22 [bi .add 10 1]++sq 10 [mv 22])))))))) (.seq (.iE (sq 23 [mv 3]++sq 2 [mv 23])) .ret))))
theorem abY:jV Tryz.prog 130 YS 24 [.tmp 2]:=mf Tryz.func130 Tryz.ntmps130
def vO(r:gI):(Int×gI)->Option ((Int×gI)⊕gI)
 |(v10,g7)=>
  if(decide (v10<(r.length:Int)))=true then
   if 0<=v10/\v10<(g7.length:Int)then
    if(decide ((g7.getD v10.toNat default)<0))=true then
     some (.inl ((IntKind.i64.wrap (v10+1)),(g7.set v10.toNat (IntKind.i64.wrap ((g7.getD v10.toNat default)-24)))))
    else
     some (.inl ((IntKind.i64.wrap (v10+1)),g7))
   else none
  else
   Option.map Sum.inr (
    some g7)
def nP(t:gI):Option gI:=
 (jE t).bind fun r=>
 iL (vO r) (0,r)
instance X4{t:gI}:jf (nP t) fun rr=>jK Tryz.prog 130 [(iH 1 iD) t] ((iH 1 iD) rr):=⟨@fun rr h=>by
 delta nP at h;refine abY.ZL (iB ?_);delta YS;refine jd ?_;refine tg [] [(900000,7)] h fun r hr h=>?_
 refine kH h [3,4,5,8,10,11,12,13,14,15,16,17,18,19,20,21,22] (fun pp=>[(10,.d (iD pp.1)),(3,.kU 1 7 pp.2.length),(8,.kU 1 7 pp.2.length)]) (fun pp=>[(7,.lZ 2 1 pp.2.length (lF iD pp.2))]) ?_;rintro⟨v10,g7⟩ t1 h hb1;unfold vO at h;try dsimp only at h
 refine iB (jd ?_);refine iF h fun hc1 h=>?_
 replace h:=jD h hb1;cases h;exact⟨_,_,(iV.fz 7 iD rfl rr),zP⟩⟩
def zb:iJ:=
 (.seq (.iE (sq 4 [bo 4 37 0]++sq 8 [.mv (.const (.pointer none)),mb false])) (.seq (.seq (.iE (sq 11 [mv 1,mv 3,bn .eql 11 12,mv 13]++sg 14 true 15 [mv 2,bi .eql 15 0]++sq 17 [pa 14 16])) (.cond (t0 17) (.seq (.iE (sq 8 [.mv (.const (.pointer none)),mb false])) .ret) .skip)) (.seq (.iE (sq 18 [fa 0 4,la 1 18,.build [.sl 0 (some true) [],.sl 0 (some true) [],.sl 0 (some true) [],.sl 0 (some true) [],.sl 0 (some true) [],.sl 0 (some true) [],.sl 0 (some true) [],.sl 0 (some true) [],.sl 0 (some true) [],.sl 0 (some true) [],.sl 0 (some true) [],.sl 0 (some true) [],.sl 0 (some true) [],.sl 0 (some true) [],.sl 0 (some true) [],.sl 0 (some true) [],.sl 0 (some true) [],.sl 0 (some true) [],.sl 0 (some true) [],.sl 0 (some true) [],.sl 0 (some true) [],.sl 0 (some true) [],.sl 0 (some true) [],.sl 0 (some true) [],.sl 0 (some true) [],.sl 0 (some true) [],.sl 0 (some true) [],.sl 0 (some true) [],.sl 0 (some true) [],.sl 0 (some true) [],.sl 0 (some true) [],.sl 0 (some true) [],.sl 0 (some true) [],.sl 0 (some true) [],.sl 0 (some true) [],.sl 0 (some true) [],.sl 0 (some true) [],.sl 0 (some true) [],.sl 0 (some true) [],.sl 0 (some true) [],.sl 0 (some true) [],.sl 0 (some true) [],.sl 0 (some true) [],.sl 0 (some true) [],.sl 0 (some true) [],.sl 0 (some true) [],.sl 0 (some true) [],.sl 0 (some true) [],.sl 0 (some true) []] [(0,1,(t0 19))],bo 21 189 20]++sq 10 [mv 21])) (.seq (.ghost (.draw (sq 22 [mv 10,mv 10,fa 0 4,la 1 24,fa 1 4,ld 26,mv 1,ix 2 27 28,fa 0 29,ld 30,mv 2,cf 139 [25,31,32],fa 1 4,ld 34,mv 3,ix 2 35 36,fa 0 37,ld 38,cf 130 [39],cf 152 [23,33,40]]++sq 8 [mv 22,mv 41]) [[],[],[],[2],[],[4],[],[5,6],[7],[8],[],[3,9,10],[],[12],[],[13,14],[15],[16],[17,11],[1,11,18,18],[0,19,0],[19,20,0,1,2,3,4,5,6,7,8,9,10,11,12,13,14,15,16,17,18,19,20]])) .ret))))
theorem CN:jV Tryz.prog 128 zb 42 [.tmp 8,.tmp 9]:=mf Tryz.func128 Tryz.ntmps128
def jR(sys:gW)(over:Int)(iY:Int)(under:Int):Option ((gI×gJ)⊕Unit):=
 if(over==under)=true then
  if(iY==0)=true then
   some (.inr ())
  else
   if 0<=over/\over<(sys.2.length:Int)then
    (kX sys.1 ((sys.2.getD over.toNat default).1) iY).bind fun r=>
    if 0<=under/\under<(sys.2.length:Int)then
     (nP ((sys.2.getD under.toNat default).1)).bind fun r_1=>
     (nR r r_1 sys.1 (List.replicate 48 [])).bind fun r_2=>
     if r_2.1=true then
      some (.inl (sys.1,r_2.2))
     else
      some (.inr ())
    else none
   else none
 else
  if 0<=over/\over<(sys.2.length:Int)then
   (kX sys.1 ((sys.2.getD over.toNat default).1) iY).bind fun r_3=>
   if 0<=under/\under<(sys.2.length:Int)then
    (nP ((sys.2.getD under.toNat default).1)).bind fun r_4=>
    (nR r_3 r_4 sys.1 (List.replicate 48 [])).bind fun r_5=>
    if r_5.1=true then
     some (.inl (sys.1,r_5.2))
    else
     some (.inr ())
   else none
  else none
instance R8{sys:gW}{over:Int}{iY:Int}{under:Int}:jf (jR sys over iY under) fun rr=>iR Tryz.prog 128 [.d (.agg [iH 1 iD sys.1,iH 2 iC sys.2]),.d (iD over),.d (iD iY),.d (iD under)] [] 0 fun xx ss=>xx=Sum.elim (fun rr:(gI×gJ)=>.kZ [.ptr 21 0,.d (bD true)]) (fun rr:Unit=>.kZ [.iO,.d (bD false)]) rr/\ss=Sum.elim (fun rr:(gI×gJ)=>[(21,.obj 189 ((.d (iH 1 iD rr.1))::List.map (aD (qJ 1 iD)) rr.2))]) (fun rr:Unit=>[]) rr:=⟨@fun rr h=>by
 delta jR at h;refine CN.oo (iB ?_);delta zb;refine jd ?_;refine it h (fun hc1 h=>?_) fun hc1 h=>?_
 ·refine it h (fun hc2 h=>?_) fun hc2 h=>?_
  ·cases h;exact⟨[4],by simp,nh,nh⟩
  refine kj.of ((iW.leS (s':=[(4,.obj 37 [.d (iH 1 iD sys.1),.d (iH 2 iC sys.2)]),(21,.obj 189 ((.d (iH 1 iD sys.1))::List.map (aD (qJ 1 iD)) (List.replicate 48 [])))]) (ju.refl _) nh)) ?_;refine jd ?_;refine jZ h fun hp h=>?_
  refine dC h fun r hr h=>?_
  refine jZ h fun hp h=>?_
  refine dC h fun r_1 hr_1 h=>?_
  refine JH [(0,21)] [] h fun r_2 hr_2 h=>?_
  refine jM (by kernel_rfl) (jd ?_);refine it h (fun hc3 h=>?_) fun hc3 h=>?_
  ·cases h;exact⟨[4],by simp,nh,nh⟩
  cases h;exact⟨[4,21],by simp,nh,nh⟩
 refine kj.of ((iW.leS (s':=[(4,.obj 37 [.d (iH 1 iD sys.1),.d (iH 2 iC sys.2)]),(21,.obj 189 ((.d (iH 1 iD sys.1))::List.map (aD (qJ 1 iD)) (List.replicate 48 [])))]) (ju.refl _) nh)) ?_;refine jd ?_;refine jZ h fun hp h=>?_
 refine dC h fun r_3 hr_3 h=>?_
 refine jZ h fun hp h=>?_
 refine dC h fun r_4 hr_4 h=>?_
 refine JH [(0,21)] [] h fun r_5 hr_5 h=>?_
 refine jM (by kernel_rfl) (jd ?_);refine it h (fun hc4 h=>?_) fun hc4 h=>?_
 ·cases h;exact⟨[4],by simp,nh,nh⟩
 cases h;exact⟨[4,21],by simp,nh,nh⟩⟩
def YR:iJ:=
 (.seq (.iE (sq 6 [.mv (.const (.slice none 0 0)),mb false])) (.seq (.seq (.iE (sq 11 [mv 2,ln 11,mi 0])) (.block 0 (.loop (.seq (.iE (sq 14 [bn .lss 13 12])) (.seq (.cond (t0 14) .skip (.exit 0)) (.seq (.block 1 (.seq (.iE (sq 15 [ix 1 11 13,ld 15]++sq 9 [mv 16])) (.seq (.seq (.iE (sq 17 [mv 9,bi .lss 17 0,mv 18]++sg 19 true 20 [mv 0,mv 9,.bin .sub (i0 (-1)) (t0 21),.pY (t0 20),fa 1 23,.AO 1 48 (t0 24) (t0 22),ld 25,.yo true (t0 26)]++sq 28 [pa 19 27])) (.cond (t0 28) (.seq (.iE (sq 10 [mb false])) (.seq (.seq (.iE (sq 30 [mv 0,mv 1,mv 0,mv 9,.bin .sub (i0 (-1)) (t0 33),.pY (t0 32),fa 1 35,.AO 1 48 (t0 36) (t0 34),ld 37,cf 129 [30,31,38]]++sq 29 [mv 39]++sq 40 [ex 29 0,ex 29 1]++sq 1 [mv 40]++sq 10 [mv 41])) (.seq (.iE (sq 42 [mv 10,nt 42])) (.cond (t0 43) (.seq (.iE (sq 6 [.mv (.const (.slice none 0 0)),mb false])) .ret) .skip))) (.exit 1))) .skip)) (.seq (.seq (.iE (sq 44 [mv 1,ln 44,bi .eql 45 60])) (.cond (t0 46) (.seq (.iE (sq 6 [.mv (.const (.slice none 0 0)),mb false])) .ret) .skip)) (.iE (sq 47 [mv 1,mv 9,.nY 49 2 1 [(t0 48)],ap 50 2 1 8 47 49]++sq 1 [mv 50])))))) (.iE (sq 51 [bi .add 13 1]++sq 13 [mv 51])))))))) (.seq (.iE (sq 52 [mv 1]++sq 6 [mv 52,mb true])) .ret)))
theorem abX:jV Tryz.prog 129 YR 53 [.tmp 6,.tmp 7]:=mf Tryz.func129 Tryz.ntmps129
def pV(rec:gI->gI->gI->gJ->Option (gI⊕gM))(t:gI)(u0:gI)(ul:gJ):gT->Option (gT⊕(gI⊕gM))
 |(out_1,v13)=>
  if(decide (v13<(t.length:Int)))=true then
   if 0<=v13/\v13<(t.length:Int)then
    if(decide ((t.getD v13.toNat default)<0))=true then
     if 0<=(IntKind.i64.wrap ((-1)-(t.getD v13.toNat default)))/\(IntKind.i64.wrap ((-1)-(t.getD v13.toNat default)))<48/\(IntKind.i64.wrap ((-1)-(t.getD v13.toNat default)))<(ul.length:Int)then
      if(ul.getD (IntKind.i64.wrap ((-1)-(t.getD v13.toNat default))).toNat default).isEmpty=true then
       if((out_1.length:Int)==60)=true then
        Option.map Sum.inr (
         some (.inr ([],out_1)))
       else
        if(out_1.length+1)*8<=140737488355328 then
         some (.inl ((out_1++[(t.getD v13.toNat default)]),(IntKind.i64.wrap (v13+1))))
        else none
      else
       (rec out_1 (ul.getD (IntKind.i64.wrap ((-1)-(t.getD v13.toNat default))).toNat default) u0 ul).bind (Sum.elim (fun rt=>
        some (.inl (rt,(IntKind.i64.wrap (v13+1))))) (fun rf=>
        Option.map Sum.inr (
         some (.inr ([],rf.2)))))
     else none
    else
     if((out_1.length:Int)==60)=true then
      Option.map Sum.inr (
       some (.inr ([],out_1)))
     else
      if(out_1.length+1)*8<=140737488355328 then
       some (.inl ((out_1++[(t.getD v13.toNat default)]),(IntKind.i64.wrap (v13+1))))
      else none
   else none
  else
   Option.map Sum.inr (
    some (.inl out_1))
def kS:Nat->gI->gI->gI->gJ->Option (gI⊕gM)
 |0,_,_,_,_=>none
 |fu+1,out,t,u0,ul=>
  iL (pV (kS fu) t u0 ul) (out,0)
def oZ(out:gI)(t:gI)(u0:gI)(ul:gJ):Option (gI⊕gM):=HN fun fu=>kS fu out t u0 ul
theorem wE:∀{fu:Nat}{out:gI}{t:gI}{u0:gI}{ul:gJ}{rr:(gI⊕gM)}(h:kS fu out t u0 ul=some rr),iR Tryz.prog 129 [.ptr 0 0,.own 1 1 (List.map iD out),.d (iH 1 iD t)] [(0,.obj 189 ((.d (iH 1 iD u0))::List.map (aD (qJ 1 iD)) ul)),(1,.tok 2 1 out.length)] 2 fun xx ss=>xx=Sum.elim (fun rr:gI=>.kZ [.own 1 1 (List.map iD rr),.d (bD true)]) (fun rr:gM=>.kZ [.d (iH 1 iD rr.1),.d (bD false)]) rr/\ss=Sum.elim (fun rr:gI=>[(0,.obj 189 ((.d (iH 1 iD u0))::List.map (aD (qJ 1 iD)) ul)),(1,.tok 2 1 rr.length)]) (fun rr:gM=>[(0,.obj 189 ((.d (iH 1 iD u0))::List.map (aD (qJ 1 iD)) ul)),(1,.tok 2 1 rr.2.length)]) rr
 |0,_,_,_,_,_,h=>by cases h
 |fu+1,out,t,u0,ul,rr,h=>by
  have ih:∀{out:gI}{t:gI}{u0:gI}{ul:gJ},jf (kS fu out t u0 ul) fun rr=>iR Tryz.prog 129 [.ptr 0 0,.own 1 1 (List.map iD out),.d (iH 1 iD t)] [(0,.obj 189 ((.d (iH 1 iD u0))::List.map (aD (qJ 1 iD)) ul)),(1,.tok 2 1 out.length)] 2 fun xx ss=>xx=Sum.elim (fun rr:gI=>.kZ [.own 1 1 (List.map iD rr),.d (bD true)]) (fun rr:gM=>.kZ [.d (iH 1 iD rr.1),.d (bD false)]) rr/\ss=Sum.elim (fun rr:gI=>[(0,.obj 189 ((.d (iH 1 iD u0))::List.map (aD (qJ 1 iD)) ul)),(1,.tok 2 1 rr.length)]) (fun rr:gM=>[(0,.obj 189 ((.d (iH 1 iD u0))::List.map (aD (qJ 1 iD)) ul)),(1,.tok 2 1 rr.2.length)]) rr:=⟨fun h=>wE h⟩
  unfold kS at h;refine abX.oo (iB ?_);delta YR;refine jd ?_;refine kH h [1,6,7,9,10,13,14,15,16,17,18,19,20,21,22,23,24,25,26,27,28,29,30,31,32,33,34,35,36,37,38,39,40,41,42,43,44,45,46,47,48,49,50,51] (fun pp=>[(1,.own 1 1 (List.map iD pp.1)),(13,.d (iD pp.2))]) (fun pp=>[(0,.obj 189 ((.d (iH 1 iD u0))::List.map (aD (qJ 1 iD)) ul)),(1,.tok 2 1 pp.1.length)]) ?_;rintro⟨out_1,v13⟩ t1 h hb1;unfold pV at h;try dsimp only at h
  refine iB (jd ?_);refine iT h fun hc1 h=>?_
  refine jZ h fun hp h=>?_
  refine it h (fun hc2 h=>?_) fun hc2 h=>?_
  ·refine jZ h fun hp h=>?_
   refine it h (fun hc3 h=>?_) fun hc3 h=>?_
   ·refine iF h fun hc4 h=>?_
    refine jZ h fun hp h=>?_
    cases h;refine⟨_,rfl,?_⟩;refine(iW.drop 49 iA).trans ?_;exact wk
   refine oS ?_;refine G4 [(0,0),(1,1)] [] h (fun rt hrt h=>?_) fun rf hrf h=>?_
   ·exact lW
   exact lW
  refine iF h fun hc5 h=>?_
  refine jZ h fun hp h=>?_
  cases h;refine⟨_,rfl,?_⟩;refine(iW.drop 49 iA).trans ?_;exact wk
instance Gf{out:gI}{t:gI}{u0:gI}{ul:gJ}:jf (oZ out t u0 ul) fun rr=>iR Tryz.prog 129 [.ptr 0 0,.own 1 1 (List.map iD out),.d (iH 1 iD t)] [(0,.obj 189 ((.d (iH 1 iD u0))::List.map (aD (qJ 1 iD)) ul)),(1,.tok 2 1 out.length)] 2 fun xx ss=>xx=Sum.elim (fun rr:gI=>.kZ [.own 1 1 (List.map iD rr),.d (bD true)]) (fun rr:gM=>.kZ [.d (iH 1 iD rr.1),.d (bD false)]) rr/\ss=Sum.elim (fun rr:gI=>[(0,.obj 189 ((.d (iH 1 iD u0))::List.map (aD (qJ 1 iD)) ul)),(1,.tok 2 1 rr.length)]) (fun rr:gM=>[(0,.obj 189 ((.d (iH 1 iD u0))::List.map (aD (qJ 1 iD)) ul)),(1,.tok 2 1 rr.2.length)]) rr:=⟨fun h=>wE (Ar h).choose_spec⟩
def jF(t:gI)(u0:gI)(ul:gJ):Option (gI⊕gM):=oZ [] t u0 ul
instance HF{t:gI}{u0:gI}{ul:gJ}:jf (jF t u0 ul) fun rr=>iR Tryz.prog 129 [.ptr 0 0,.d (.sl 0 (some true) []),.d (iH 1 iD t)] [(0,.obj 189 ((.d (iH 1 iD u0))::List.map (aD (qJ 1 iD)) ul))] 1 fun xx ss=>xx=Sum.elim (fun rr:gI=>.kZ [.own 1 1 (List.map iD rr),.d (bD true)]) (fun rr:gM=>.kZ [.d (iH 1 iD rr.1),.d (bD false)]) rr/\ss=Sum.elim (fun rr:gI=>[(0,.obj 189 ((.d (iH 1 iD u0))::List.map (aD (qJ 1 iD)) ul)),(1,.tok 2 1 rr.length)]) (fun rr:gM=>[(0,.obj 189 ((.d (iH 1 iD u0))::List.map (aD (qJ 1 iD)) ul)),(1,.tok 2 1 rr.2.length)]) rr:=⟨fun h=>iR.aaO 1 1 2 1 rfl rfl (jf.c (x:=oZ [] t u0 ul) h)⟩
def YU:iJ:=
 (.seq (.iE (sq 6 [mi 0])) (.seq (.iE (sq 10 [mv 0,mv 1,mv 2,.slc (t0 11) 1 none (some (t0 12)) none,.mB 129 [(t0 10),(.const (.slice none 0 0)),(t0 13)]]++sq 9 [mv 14]++sq 15 [ex 9 0,ex 9 1]++sq 7 [mv 15,mv 16])) (.seq (.iE (sq 17 [mv 7,ln 17]++sq 6 [mv 18])) .ret)))
theorem ab0:jV Tryz.prog 132 YU 19 [.tmp 6]:=mf Tryz.func132 Tryz.ntmps132
def mG(t:gI)(iY:Int)(u0:gI)(ul:gJ):Option Int:=
 if 0<=iY/\iY<=(t.length:Int)then
  (jF (t.take iY.toNat) u0 ul).bind (Sum.elim (fun rt=>
   some (rt.length:Int)) (fun rf=>
   some (rf.1.length:Int)))
 else none
instance IU{t:gI}{iY:Int}{u0:gI}{ul:gJ}:jf (mG t iY u0 ul) fun rr=>iR Tryz.prog 132 [.ptr 0 0,.d (iH 1 iD t),.d (iD iY)] [(0,.obj 189 ((.d (iH 1 iD u0))::List.map (aD (qJ 1 iD)) ul))] 1 fun xx ss=>xx=.d (iD rr)/\ss=[(0,.obj 189 ((.d (iH 1 iD u0))::List.map (aD (qJ 1 iD)) ul))]:=⟨@fun rr h=>by
 delta mG at h;refine ab0.oo (iB ?_);delta YU;refine jd ?_;refine jZ h fun hp h=>?_
 refine G4 [(0,0)] [(1,14)] h (fun rt hrt h=>?_) fun rf hrf h=>?_
 ·cases h;exact⟨[14],by simp,nh,nh⟩
 cases h;exact⟨[14],by simp,nh,nh⟩⟩
def yp:iJ:=
 (.seq (.iE (sq 2 [.mv (.const (.slice none 0 0))])) (.seq (.iE (sq 3 [.mv (.const (.slice none 0 0))])) (.seq (.iE (sq 4 [.mv (.const (.slice none 0 0))])) (.seq (.seq (.iE (sq 11 [mv 0,ln 11,mi 0])) (.block 0 (.loop (.seq (.iE (sq 14 [bn .lss 13 12])) (.seq (.cond (t0 14) .skip (.exit 0)) (.seq (.block 1 (.seq (.iE (sq 15 [ix 1 11 13,ld 15]++sq 6 [mv 16])) (.seq (.iE (sq 17 [mv 6,cf 64 [17]]++sq 7 [mv 18])) (.seq (.seq (.iE (sq 19 [mv 7,ln 19,mi 0])) (.block 2 (.loop (.seq (.iE (sq 22 [bn .lss 21 20])) (.seq (.cond (t0 22) .skip (.exit 2)) (.seq (.block 3 (.seq (.iE (sq 23 [mv 21,ix 1 19 21,ld 24]++sq 8 [mv 23,mv 25])) (.seq (.seq (.iE (sq 26 [mv 9,bi .geq 26 0])) (.cond (t0 27) (.exit 3) .skip)) (.seq (.iE (sq 28 [mv 3,mv 9,cf 151 [28,29]]++sq 10 [mv 30])) (.seq (.seq (.iE (sq 31 [mv 10,bi .lss 31 0])) (.cond (t0 32) (.seq (.iE (sq 33 [mv 3,ln 33]++sq 10 [mv 34])) (.iE (sq 35 [mv 3,mv 9,.nY 37 2 1 [(t0 36)],ap 38 2 1 8 35 37]++sq 3 [mv 38]))) .skip)) (.iE (sq 39 [mv 7,mv 8,mv 10,.bin .sub (i0 (-1)) (t0 41),ix 1 39 40]++s0 (sr 1 43 42)))))))) (.iE (sq 44 [bi .add 21 1]++sq 21 [mv 44])))))))) (.ghost (.iE (sq 45 [mv 4,mv 7,.nY 47 22 1 [(t0 46)],ap 48 22 1 24 45 47]++sq 4 [mv 48]))))))) (.iE (sq 49 [bi .add 13 1]++sq 13 [mv 49])))))))) (.seq (.iE (sq 50 [mv 4]++sq 2 [mv 50])) .ret)))))
theorem Cq:jV Tryz.prog 133 yp 51 [.tmp 2]:=mf Tryz.func133 Tryz.ntmps133
def oY(out:gJ)(v13:Int)(r:gI):(gI×Int×gI)->Option ((gI×Int×gI)⊕((gI×gJ×Int)⊕gJ))
 |(seen_1,v21,g18)=>
  if(decide (v21<(r.length:Int)))=true then
   if 0<=v21/\v21<(g18.length:Int)then
    if(decide (0<=(g18.getD v21.toNat default)))=true then
     some (.inl (seen_1,(IntKind.i64.wrap (v21+1)),g18))
    else
     (jH seen_1 (g18.getD v21.toNat default)).bind fun r_1=>
     if(decide (r_1<0))=true then
      if(seen_1.length+1)*8<=140737488355328 then
       some (.inl ((seen_1++[(g18.getD v21.toNat default)]),(IntKind.i64.wrap (v21+1)),(g18.set v21.toNat (IntKind.i64.wrap ((-1)-(seen_1.length:Int))))))
      else none
     else
      some (.inl (seen_1,(IntKind.i64.wrap (v21+1)),(g18.set v21.toNat (IntKind.i64.wrap ((-1)-r_1)))))
   else none
  else
   Option.map Sum.inr (
    if(out.length+1)*24<=140737488355328 then
     some (.inl (seen_1,(out++[g18]),(IntKind.i64.wrap (v13+1))))
    else none)
def oX(ts:gJ):(gI×gJ×Int)->Option ((gI×gJ×Int)⊕gJ)
 |(seen,out,v13)=>
  if(decide (v13<(ts.length:Int)))=true then
   if 0<=v13/\v13<(ts.length:Int)then
    (jE (ts.getD v13.toNat default)).bind fun r=>
    iL (oY out v13 r) (seen,0,r)
   else none
  else
   Option.map Sum.inr (
    some out)
def sA(ts:gJ):Option gJ:=
 iL (oX ts) ([],[],0)
instance Ra{ts:gJ}:jf (sA ts) fun rr=>jK Tryz.prog 133 [(iH 1 (iH 1 iD)) ts] ((iH 1 (iH 1 iD)) rr):=⟨@fun rr h=>by
 delta sA at h;refine Cq.jv (iB ?_);delta yp;refine jd ?_;refine nL h [3,4,6,7,8,9,10,13,14,15,16,17,18,19,20,21,22,23,24,25,26,27,28,29,30,31,32,33,34,35,36,37,38,39,40,41,42,43,44,45,46,47,48,49] (fun pp=>[(3,.own 1 38 (List.map iD pp.1)),(4,.own 1 48 (List.map (iH 1 iD) pp.2.1)),(13,.d (iD pp.2.2))]) (fun pp=>[(38,.tok 2 1 pp.1.length),(48,.tok 22 1 pp.2.1.length)]) ?_ ?_
 ·try dsimp only
  refine(iW.Ll 3 38 2 1 rfl rfl).trans ?_;refine(iW.Ll 4 48 22 1 rfl rfl).trans ?_;exact wk
 rintro⟨seen,out,v13⟩ t1 h hb1;unfold oX at h;try dsimp only at h
 refine iB (jd ?_);refine iT h fun hc1 h=>?_
 refine jZ h fun hp h=>?_
 refine tg [] [(900000,18)] h fun r hr h=>?_
 refine kH h [3,7,8,9,10,19,21,22,23,24,25,26,27,28,29,30,31,32,33,34,35,36,37,38,39,40,41,42,43,44] (fun pp=>[(3,.own 1 38 (List.map iD pp.1)),(21,.d (iD pp.2.1)),(7,.kU 1 18 pp.2.2.length),(19,.kU 1 18 pp.2.2.length)]) (fun pp=>[(18,.lZ 2 1 pp.2.2.length (lF iD pp.2.2)),(38,.tok 2 1 pp.1.length),(48,.tok 22 1 out.length)]) ?_;rintro⟨seen_1,v21,g18⟩ t2 h hb2;unfold oY at h;try dsimp only at h
 refine iB (jd ?_);refine it h (fun hc2 h=>?_) fun hc2 h=>?_
 ·refine jZ h fun hp h=>?_
  refine oS ?_;refine iF h fun hc3 h=>?_
  refine rC h fun r_1 hr_1 h=>?_
  refine iT h fun hc4 h=>?_
  refine jZ h fun hp h=>?_
  refine oS ?_;refine oS ?_;cases h;refine⟨_,rfl,?_⟩;refine(iW.drop 37 iA).trans ?_;exact wk
 replace h:=jD h hb2;refine kj.of ((iW.fz 18 iD rfl g18)) ?_;refine ag0 ?_;refine jd ?_;refine jZ h fun hp h=>?_
 cases h;refine⟨_,rfl,?_⟩;refine(iW.drop 47 iA).trans ?_;exact wk⟩
def Ys:iJ:=
 (.seq (.iE (sq 4 [bo 4 37 0]++sq 8 [.alloc 8 47 [.sl 0 (some true) [],.sl 0 (some true) [],.sl 0 (some true) [],.lit (.int .i64 0),.lit (.int .i64 0),.lit (.int .i64 0)],mb false])) (.seq (.iE (sq 22 [la 2 4,mv 1,mv 2,mv 3,cf 128 [22,23,24,25]]++sq 21 [mv 26]++sq 27 [ex 21 0,ex 21 1]++sq 10 [mv 27,mv 28])) (.seq (.seq (.iE (sq 29 [mv 11,nt 29])) (.cond (t0 30) (.seq (.iE (sq 31 [.build [.sl 0 (some true) [],.sl 0 (some true) [],.sl 0 (some true) [],.lit (.int .i64 0),.lit (.int .i64 0),.lit (.int .i64 0)] []]++s0 (sr 6 8 31)++sq 9 [mb false])) .ret) .skip)) (.seq (.iE (sq 32 [fa 1 4,ld 32,mv 1,ix 2 33 34,la 2 35]++sq 12 [.alloc 12 54 [.sl 0 (some true) [],.sl 0 (some true) []]]++s0 (sr 2 12 36))) (.seq (.iE (sq 38 [mv 10,fa 0 12,ld 39,.mB 129 [(t0 38),(.const (.slice none 0 0)),(t0 40)]]++sq 37 [mv 41]++sq 42 [ex 37 0,ex 37 1]++sq 13 [mv 42,mv 43])) (.seq (.iE (sq 45 [mv 10,fa 1 12,ld 46,.mB 129 [(t0 45),(.const (.slice none 0 0)),(t0 47)]]++sq 44 [mv 48]++sq 49 [ex 44 0,ex 44 1]++sq 15 [mv 49,mv 50])) (.seq (.iE (sq 52 [mv 10,fa 1 4,ld 53,mv 3,ix 2 54 55,fa 1 56,ld 57,cf 130 [58],.mB 129 [(t0 52),(.const (.slice none 0 0)),(t0 59)]]++sq 51 [mv 60]++sq 61 [ex 51 0,ex 51 1]++sq 17 [mv 61,mv 62])) (.seq (.seq (.iE (sq 63 [mv 14,nt 63,mv 64]++sg 65 false 66 [mv 16,nt 66]++sq 68 [po 65 67,mv 68]++sg 69 false 70 [mv 18,nt 70]++sq 72 [po 69 71])) (.cond (t0 72) (.seq (.iE (sq 73 [.build [.sl 0 (some true) [],.sl 0 (some true) [],.sl 0 (some true) [],.lit (.int .i64 0),.lit (.int .i64 0),.lit (.int .i64 0)] []]++s0 (sr 6 8 73)++sq 9 [mb false])) .ret) .skip)) (.seq (.draw (sq 75 [fa 0 4,la 1 75,mv 13,mv 10,fa 0 12,ld 79,mv 2,cf 132 [78,80,81],mv 17,cf 131 [76,77,82,83]]++sq 74 [mv 84]++sq 85 [ex 74 0,ex 74 1]++sq 19 [mv 85]++sq 11 [mv 86]) [[],[0],[],[],[],[4],[],[3,5,6],[],[1,2,7,8,7],[9],[10],[10],[11,9,0,1,2,3,4,5,6,7,8,9,10,11],[12,13,0,1,2,3,4,5,6,7,8,9,10,11,12,13]]) (.seq (.seq (.iE (sq 87 [mv 11,nt 87])) (.cond (t0 88) (.seq (.iE (sq 89 [.build [.sl 0 (some true) [],.sl 0 (some true) [],.sl 0 (some true) [],.lit (.int .i64 0),.lit (.int .i64 0),.lit (.int .i64 0)] []]++s0 (sr 6 8 89)++sq 9 [mb false])) .ret) .skip)) (.seq (.iE (sq 90 [mv 13,mv 19,mv 15,.nY 93 22 1 [(t0 90),(t0 91),(t0 92)],cf 133 [93]]++sq 20 [mv 94])) (.seq (.seq (.iE (sq 95 [mv 20,.xR 1 (t0 95) (i0 0),ld 96,cf 107 [97],bi .lss 98 (-24)])) (.cond (t0 99) (.seq (.iE (sq 100 [.build [.sl 0 (some true) [],.sl 0 (some true) [],.sl 0 (some true) [],.lit (.int .i64 0),.lit (.int .i64 0),.lit (.int .i64 0)] []]++s0 (sr 6 8 100)++sq 9 [mb false])) .ret) .skip)) (.seq (.draw (sq 101 [mv 20,.xR 1 (t0 101) (i0 0),ld 102,mv 20,.xR 1 (t0 104) (i0 1),ld 105,mv 20,.xR 1 (t0 107) (i0 2),ld 108,mv 2,mv 3,mv 1,.build [.sl 0 (some true) [],.sl 0 (some true) [],.sl 0 (some true) [],.lit (.int .i64 0),.lit (.int .i64 0),.lit (.int .i64 0)] [(0,1,(t0 103)),(1,1,(t0 106)),(2,1,(t0 109)),(3,1,(t0 110)),(4,1,(t0 111)),(5,1,(t0 112))]]++s0 (sr 6 8 113)++sq 9 [mb true]) [[],[0],[1],[],[3],[4],[],[6],[7],[],[],[],[2,5,8,9,10,11],[12,0,1,2,3,4,5,6,7,8,9,10,11,12],[13,0,1,2,3,4,5,6,7,8,9,10,11,12,13]]) .ret)))))))))))))
theorem aby:jV Tryz.prog 102 Ys 114 [.cell 8 6 true,.tmp 9]:=mf Tryz.func102 Tryz.ntmps102
def oD(sys:gW)(over:Int)(iY:Int)(under:Int):Option (gN×Bool):=
 (jR sys over iY under).bind (Sum.elim (fun rt=>
  if 0<=over/\over<(sys.2.length:Int)then
   (jF ((sys.2.getD over.toNat default).1) rt.1 rt.2).bind (Sum.elim (fun rt_1=>
    (jF ((sys.2.getD over.toNat default).2) rt.1 rt.2).bind (Sum.elim (fun rt_2=>
     if 0<=under/\under<(sys.2.length:Int)then
      (nP ((sys.2.getD under.toNat default).2)).bind fun r=>
      (jF r rt.1 rt.2).bind (Sum.elim (fun rt_3=>
       (mG ((sys.2.getD over.toNat default).1) iY rt.1 rt.2).bind fun r_1=>
       (tA sys.1 rt_1 r_1 rt_3).bind fun r_2=>
       if r_2.2=true then
        (sA [rt_1,r_2.1,rt_2]).bind fun r_3=>
        if 0<=0/\0<(r_3.length:Int)then
         (ki (r_3.getD 0 default)).bind fun r_4=>
         if(decide (r_4<(-24)))=true then
          some (([],[],[],0,0,0),false)
         else
          if 0<=1/\1<(r_3.length:Int)then
           if 0<=2/\2<(r_3.length:Int)then
            some (((r_3.getD 0 default),(r_3.getD 1 default),(r_3.getD 2 default),iY,under,over),true)
           else none
          else none
        else none
       else
        some (([],[],[],0,0,0),false)) (fun rf=>
       some (([],[],[],0,0,0),false)))
     else none) (fun rf_1=>
     if 0<=under/\under<(sys.2.length:Int)then
      (nP ((sys.2.getD under.toNat default).2)).bind fun r_5=>
      (jF r_5 rt.1 rt.2).bind (Sum.elim (fun rt_4=>
       some (([],[],[],0,0,0),false)) (fun rf_2=>
       some (([],[],[],0,0,0),false)))
     else none))) (fun rf_3=>
    (jF ((sys.2.getD over.toNat default).2) rt.1 rt.2).bind (Sum.elim (fun rt_5=>
     if 0<=under/\under<(sys.2.length:Int)then
      (nP ((sys.2.getD under.toNat default).2)).bind fun r_6=>
      (jF r_6 rt.1 rt.2).bind (Sum.elim (fun rt_6=>
       some (([],[],[],0,0,0),false)) (fun rf_4=>
       some (([],[],[],0,0,0),false)))
     else none) (fun rf_5=>
     if 0<=under/\under<(sys.2.length:Int)then
      (nP ((sys.2.getD under.toNat default).2)).bind fun r_7=>
      (jF r_7 rt.1 rt.2).bind (Sum.elim (fun rt_7=>
       some (([],[],[],0,0,0),false)) (fun rf_6=>
       some (([],[],[],0,0,0),false)))
     else none))))
  else none) (fun rf_7=>
  some (([],[],[],0,0,0),false)))
instance UR{sys:gW}{over:Int}{iY:Int}{under:Int}:jf (oD sys over iY under) fun rr=>mO Tryz.prog 102 [iU sys,iD over,iD iY,iD under] [kN rr.1,bD rr.2]:=⟨@fun rr h=>by
 delta oD at h;refine aby.mz (iB ?_);delta Ys;refine jd ?_;refine G4 [] [(21,26)] h (fun rt hrt h=>?_) fun rf_7 hrf_7 h=>?_
 ·refine jZ h fun hp h=>?_
  refine G4 [(0,26)] [(1,41)] h (fun rt_1 hrt_1 h=>?_) fun rf_3 hrf_3 h=>?_
  ·refine G4 [(0,26)] [(1,48)] h (fun rt_2 hrt_2 h=>?_) fun rf_1 hrf_1 h=>?_
   ·refine jZ h fun hp h=>?_
    refine rC h fun r hr h=>?_
    refine G4 [(0,26)] [(1,60)] h (fun rt_3 hrt_3 h=>?_) fun rf hrf h=>?_
    ·refine JH [(0,26)] [] h fun r_1 hr_1 h=>?_
     exact lW
    exact lW
   refine jZ h fun hp h=>?_
   refine rC h fun r_5 hr_5 h=>?_
   refine G4 [(0,26)] [(1,60)] h (fun rt_4 hrt_4 h=>?_) fun rf_2 hrf_2 h=>?_
   ·exact lW
   exact lW
  refine G4 [(0,26)] [(1,48)] h (fun rt_5 hrt_5 h=>?_) fun rf_5 hrf_5 h=>?_
  ·refine jZ h fun hp h=>?_
   refine rC h fun r_6 hr_6 h=>?_
   refine G4 [(0,26)] [(1,60)] h (fun rt_6 hrt_6 h=>?_) fun rf_4 hrf_4 h=>?_
   ·exact lW
   exact lW
  refine jZ h fun hp h=>?_
  refine rC h fun r_7 hr_7 h=>?_
  refine G4 [(0,26)] [(1,60)] h (fun rt_7 hrt_7 h=>?_) fun rf_6 hrf_6 h=>?_
  ·exact lW
  exact lW
 exact lW⟩
end Go.Proofs.YtjgbnaihpicpgabGreat
namespace Go.Proofs.YtjgbnaihpicpgabGreat
open Go oq
attribute [local irreducible] uy zk yt nN mY oR kj C7 D_ BZ D9 Be vL mA oG Dk ju lM Ft
set_option maxHeartbeats 4000000
set_option maxRecDepth 4000
def mE(x:Int×Int×Int):D:=.agg [iD x.1,iD x.2.1,iD x.2.2]
instance:sW mE 3:=⟨fun _=>rfl⟩
attribute [go_sem] mE
abbrev JP:=gI×List gM
abbrev Ns:=Int×Int×Int
def zS(sys:JP)(ov iY:Nat):Nat->Option (List Ns)
 |0=>some []
 |k+1=>
  if(decide ((sys.2.getD ov default).1.getD iY default<0))=true then zS sys ov iY k
  else(jR sys (ov:Int) (iY:Int) ((sys.2.length-(k+1):Nat):Int)).bind (Sum.elim (fun _=>(zS sys ov iY k).map fun l=>((ov:Int),(iY:Int),((sys.2.length-(k+1):Nat):Int))::l) (fun _=>zS sys ov iY k))
def EG(sys:JP)(ov:Nat):Nat->Option (List Ns)
 |0=>some []
 |k+1=>(zS sys ov ((sys.2.getD ov default).1.length-(k+1)) sys.2.length).bind fun xs=>(EG sys ov k).map fun ys=>xs++ys
def EH(sys:JP):Nat->Option (List Ns)
 |0=>some []
 |k+1=>(EG sys (sys.2.length-(k+1)) ((sys.2.getD (sys.2.length-(k+1)) default).1).length).bind fun xs=>(EH sys k).map fun ys=>xs++ys
def Ef(sys:JP):Option (List Ns):=EH sys sys.2.length
theorem P0{P:Program}{l:Nat}{ms:List jo}(pre post:List jo)(d q0:Nat)(want:Bool)(g:Operand)(args:List Operand){Q:wX}{env:List AV}{x:List D}{r:List (List D)}(hms:ms=pre++⟨some d,.pJ g args,some (some q0,want)⟩::post)
 (hpre:xA P 0 pre env [] (fun env' s'=>∃env1,iW 0 env' s' env1 []/\AV.ji (fun _=>none) env1=env1/\ev env1 g=.d (.lit (.func (.yield l) #[] #[]))/\args.map (ev env1)=x.map .d/\env1.getD q0 .iO=.d (.lit (.bool want))/\
  ∀b,xA P 0 post (env1.set d (.d (bD b))) [] (fun env' s'=>∃env2,iW 0 env' s' env2 []/\AV.ji (fun _=>none) env2=env2/\Q .normal env2 (if b then some r else none)))):Ft P l (.iE ms) Q env (some (x::r)):=by
 subst hms;exact S6 hpre
def YQ:iJ:=
 (.seq (.iE (sq 10 [fa 1 1,ld 10,ln 11,mi 0])) (.block 0 (.loop (.seq (.iE (sq 14 [bn .lss 13 12])) (.seq (.cond (t0 14) .skip (.exit 0)) (.seq (.block 1 (.seq (.iE (sq 15 [mv 13,ix 2 11 13,la 2 16]++sq 4 [.alloc 4 54 [.sl 0 (some true) [],.sl 0 (some true) []]]++sq 3 [mv 15]++s0 (sr 2 4 17))) (.seq (.iE (sq 18 [fa 0 4,ld 18,ln 19,mi 0])) (.block 2 (.loop (.seq (.iE (sq 22 [bn .lss 21 20])) (.seq (.cond (t0 22) .skip (.exit 2)) (.seq (.block 3 (.seq (.iE (sq 23 [mv 21,ix 1 19 21,ld 24]++sq 5 [mv 23,mv 25])) (.seq (.iE (sq 26 [fa 1 1,ld 26,ln 27,mi 0])) (.block 4 (.loop (.seq (.iE (sq 30 [bn .lss 29 28])) (.seq (.cond (t0 30) .skip (.exit 4)) (.seq (.block 5 (.seq (.iE (sq 31 [mv 29]++sq 7 [mv 31])) (.seq (.seq (.iE (sq 32 [mv 6,bi .lss 32 0])) (.cond (t0 33) (.exit 5) .skip)) (.seq (.iE (sq 35 [la 2 1,mv 3,mv 5,mv 7,cf 128 [35,36,37,38]]++sq 34 [mv 39]++sq 40 [ex 34 0,ex 34 1]++sq 8 [mv 40,mv 41])) (.seq (.iE (sq 42 [mv 9,mv 42]++sg 43 true 44 [mv 0,mv 3,mv 5,mv 7,.build [.lit (.int .i64 0),.lit (.int .i64 0),.lit (.int .i64 0)] [(0,1,(t0 45)),(1,1,(t0 46)),(2,1,(t0 47))],.pJ (t0 44) [(t0 48)],nt 49]++sq 51 [pa 43 50])) (.cond (t0 51) .ret .skip)))))) (.iE (sq 52 [bi .add 29 1]++sq 29 [mv 52])))))))))) (.iE (sq 53 [bi .add 21 1]++sq 21 [mv 53])))))))))) (.iE (sq 54 [bi .add 13 1]++sq 13 [mv 54]))))))))
theorem abW:jV Tryz.prog 127 YQ 55 []:=mf Tryz.func127 Tryz.ntmps127
def Yr:iJ:=
 (.seq (.iE (sq 1 [bo 1 37 0,.mv (.const .nilFunc)])) (.seq (.iE (sq 3 [.EI 127 [] [(t0 1)]]++sq 2 [mv 3])) .ret))
theorem abx:jV Tryz.prog 101 Yr 4 [.tmp 2]:=mf Tryz.func101 Tryz.ntmps101
section
variable(sys:JP)(l:Nat)
def Ok(ov:Nat):List AV:=[.d (.lit (.func (.yield l) #[] #[])),.pv [iH 1 iD sys.1,iH 2 iC sys.2]]++List.replicate 9 .iO++[.d (iH 2 iC sys.2),.d (iD (sys.2.length:Int)),.d (iD (ov:Int))]++List.replicate 41 .iO
def mtI(ov:Nat):List AV:=[.d (.lit (.func (.yield l) #[] #[])),.pv [iH 1 iD sys.1,iH 2 iC sys.2],.iO,.d (iD (ov:Int)),.pv [iH 1 iD (sys.2.getD ov default).1,iH 1 iD (sys.2.getD ov default).2]]++List.replicate 6 .iO++[.d (iH 2 iC sys.2),.d (iD (sys.2.length:Int)),.d (iD (ov:Int))]++List.replicate 41 .iO
def Ru(ov iY:Nat):List AV:=[.d (.lit (.func (.yield l) #[] #[])),.pv [iH 1 iD sys.1,iH 2 iC sys.2],.iO,.d (iD (ov:Int)),.pv [iH 1 iD (sys.2.getD ov default).1,iH 1 iD (sys.2.getD ov default).2]]++List.replicate 6 .iO++[.d (iH 2 iC sys.2),.d (iD (sys.2.length:Int)),.d (iD (ov:Int))]++List.replicate 5 .iO++[.d (iH 1 iD (sys.2.getD ov default).1),.d (iD ((sys.2.getD ov default).1.length:Int)),.d (iD (iY:Int))]++List.replicate 33 .iO
def mtJ(ov iY:Nat):List AV:=[.d (.lit (.func (.yield l) #[] #[])),.pv [iH 1 iD sys.1,iH 2 iC sys.2],.iO,.d (iD (ov:Int)),.pv [iH 1 iD (sys.2.getD ov default).1,iH 1 iD (sys.2.getD ov default).2],.d (iD (iY:Int)),.d (iD ((sys.2.getD ov default).1.getD iY default))]++List.replicate 4 .iO++[.d (iH 2 iC sys.2),.d (iD (sys.2.length:Int)),.d (iD (ov:Int))]++List.replicate 5 .iO++[.d (iH 1 iD (sys.2.getD ov default).1),.d (iD ((sys.2.getD ov default).1.length:Int)),.d (iD (iY:Int))]++List.replicate 33 .iO
def Iw(ov iY un:Nat):List AV:=[.d (.lit (.func (.yield l) #[] #[])),.pv [iH 1 iD sys.1,iH 2 iC sys.2],.iO,.d (iD (ov:Int)),.pv [iH 1 iD (sys.2.getD ov default).1,iH 1 iD (sys.2.getD ov default).2],.d (iD (iY:Int)),.d (iD ((sys.2.getD ov default).1.getD iY default))]++List.replicate 4 .iO++[.d (iH 2 iC sys.2),.d (iD (sys.2.length:Int)),.d (iD (ov:Int))]++List.replicate 5 .iO++[.d (iH 1 iD (sys.2.getD ov default).1),.d (iD ((sys.2.getD ov default).1.length:Int)),.d (iD (iY:Int))]++List.replicate 5 .iO++[.d (iH 2 iC sys.2),.d (iD (sys.2.length:Int)),.d (iD (un:Int))]++List.replicate 25 .iO
def mt7(ov iY un:Nat):List AV:=[.d (.lit (.func (.yield l) #[] #[])),.pv [iH 1 iD sys.1,iH 2 iC sys.2],.iO,.d (iD (ov:Int)),.pv [iH 1 iD (sys.2.getD ov default).1,iH 1 iD (sys.2.getD ov default).2],.d (iD (iY:Int)),.d (iD ((sys.2.getD ov default).1.getD iY default)),.d (iD (un:Int)),.iO,.iO,.iO,.d (iH 2 iC sys.2),.d (iD (sys.2.length:Int)),.d (iD (ov:Int))]++List.replicate 5 .iO++[.d (iH 1 iD (sys.2.getD ov default).1),.d (iD ((sys.2.getD ov default).1.length:Int)),.d (iD (iY:Int))]++List.replicate 5 .iO++[.d (iH 2 iC sys.2),.d (iD (sys.2.length:Int)),.d (iD (un:Int))]++List.replicate 25 .iO
def mt9(ov iY un:Nat):List AV:=[.d (.lit (.func (.yield l) #[] #[])),.pv [iH 1 iD sys.1,iH 2 iC sys.2],.iO,.d (iD (ov:Int)),.pv [iH 1 iD (sys.2.getD ov default).1,iH 1 iD (sys.2.getD ov default).2],.d (iD (iY:Int)),.d (iD ((sys.2.getD ov default).1.getD iY default)),.d (iD (un:Int)),.iO,.d (bD true),.iO,.d (iH 2 iC sys.2),.d (iD (sys.2.length:Int)),.d (iD (ov:Int))]++List.replicate 5 .iO++[.d (iH 1 iD (sys.2.getD ov default).1),.d (iD ((sys.2.getD ov default).1.length:Int)),.d (iD (iY:Int))]++List.replicate 5 .iO++[.d (iH 2 iC sys.2),.d (iD (sys.2.length:Int)),.d (iD (un:Int))]++List.replicate 25 .iO
def mtY(ov iY un:Nat):List AV:=[.d (.lit (.func (.yield l) #[] #[])),.pv [iH 1 iD sys.1,iH 2 iC sys.2],.iO,.d (iD (ov:Int)),.pv [iH 1 iD (sys.2.getD ov default).1,iH 1 iD (sys.2.getD ov default).2],.d (iD (iY:Int)),.d (iD ((sys.2.getD ov default).1.getD iY default))]++List.replicate 4 .iO++[.d (iH 2 iC sys.2),.d (iD (sys.2.length:Int)),.d (iD (ov:Int))]++List.replicate 5 .iO++[.d (iH 1 iD (sys.2.getD ov default).1),.d (iD ((sys.2.getD ov default).1.length:Int)),.d (iD (iY:Int))]++List.replicate 5 .iO++[.d (iH 2 iC sys.2),.d (iD (sys.2.length:Int)),.d (iD (un:Int))]++List.replicate 13 .iO++[.d (bD true),.d (.lit (.func (.yield l) #[] #[])),.iO,.iO,.iO,.d (mE ((ov:Int),(iY:Int),(un:Int)))]++List.replicate 6 .iO
def mtB(ov iY un:Nat)(b:Bool):List AV:=[.d (.lit (.func (.yield l) #[] #[])),.pv [iH 1 iD sys.1,iH 2 iC sys.2],.iO,.d (iD (ov:Int)),.pv [iH 1 iD (sys.2.getD ov default).1,iH 1 iD (sys.2.getD ov default).2],.d (iD (iY:Int)),.d (iD ((sys.2.getD ov default).1.getD iY default))]++List.replicate 4 .iO++[.d (iH 2 iC sys.2),.d (iD (sys.2.length:Int)),.d (iD (ov:Int))]++List.replicate 5 .iO++[.d (iH 1 iD (sys.2.getD ov default).1),.d (iD ((sys.2.getD ov default).1.length:Int)),.d (iD (iY:Int))]++List.replicate 5 .iO++[.d (iH 2 iC sys.2),.d (iD (sys.2.length:Int)),.d (iD (un:Int))]++List.replicate 21 .iO++[.d (bD (!b)),.iO,.iO,.iO]
end
theorem KB{sys:JP}{els:List Ns}(h0:Ef sys=some els):Iter Tryz.prog 127 [.pv [iH 1 iD sys.1,iH 2 iC sys.2]] (els.map fun x=>[mE x]):=by
 refine I_ abW (by kernel_rfl) rfl fun l=>GF (p:=sys.2.length<2^63) (fun X a W hst=>by have:=G3 (i:=1) (cs1:=[iH 1 iD sys.1]) (cs2:=[]) (ds:=sys.2.map iC) (e:=2) (nl:=none) hst rfl;simpa using this) fun hlen2=>?_
 delta YQ;refine mh (kE rfl (iB ?_));show uy _ _ _ _ ([.d (.lit (.func (.yield l) #[] #[])),.pv [iH 1 iD sys.1,iH 2 iC sys.2]]++List.replicate 53 .iO) [];refine jd ?_;refine⟨Ok sys l 0,(by delta Ok;exact wk),rfl,vh ?_⟩;refine EC (ι:=Nat×List Ns) (fun p=>Ok sys l p.1) (fun p=>some (p.2.map fun x=>[mE x])) (fun p=>p.1<=sys.2.length/\EH sys (sys.2.length-p.1)=some p.2) (fun p=>sys.2.length-p.1) (0,els) ⟨cS _,h0⟩ .refl (fun _=>rfl) ?_;rintro⟨ov,r⟩ ⟨yD,h⟩;simp only at yD h⊢;refine mh (kE rfl (iB ?_));delta Ok;by_cases hlt:ov<sys.2.length
 rotate_left
 ·have hc:decide ((ov:Int)<(sys.2.length:Int))=false:=by simpa using hlt
  refine uE hc ?_;refine⟨[.d (.lit (.func (.yield l) #[] #[])),.pv [iH 1 iD sys.1,iH 2 iC sys.2]]++List.replicate 9 .iO++[.d (iH 2 iC sys.2),.d (iD (sys.2.length:Int)),.d (iD (ov:Int)),.d (bD false)]++List.replicate 40 .iO,wk,rfl,mh (kE rfl (iB ?_))⟩;refine jd ?_;have:ov=sys.2.length:=by omega
  subst this;rw[cN]at h;cases h;exact⟨Ok sys l sys.2.length,(by delta Ok;exact wk),rfl,.inl rfl,.inl rfl⟩
 have hc:decide ((ov:Int)<(sys.2.length:Int))=true:=by simpa using hlt
 refine uE hc ?_;refine⟨[.d (.lit (.func (.yield l) #[] #[])),.pv [iH 1 iD sys.1,iH 2 iC sys.2]]++List.replicate 9 .iO++[.d (iH 2 iC sys.2),.d (iD (sys.2.length:Int)),.d (iD (ov:Int)),.d (bD true)]++List.replicate 40 .iO,wk,rfl,mh (kE rfl (iB ?_))⟩;refine jd ?_;refine⟨Ok sys l ov,(by delta Ok;exact wk),rfl,?_⟩;obtain⟨k0,hk0⟩:∃k0,sys.2.length-ov=k0+1:=⟨sys.2.length-ov-1,iA⟩;rw[hk0]at h;simp only[EH]at h;rw[show sys.2.length-(k0+1)=ov by omega]at h;obtain⟨xs,hxs,h⟩:=av.1 h;obtain⟨rest,hrest,hr⟩:=aB.1 h;subst hr;clear h;refine mh (vh (mh (kE rfl (iB ?_))));delta Ok;refine jd ?_;repeat(refine CQ iA ?_;refine jd ?_)
 refine⟨mtI sys l ov,(iW.Xb 4 (ds:=[iH 1 iD (sys.2.getD ov default).1,iH 1 iD (sys.2.getD ov default).2]) iA rfl).trans ((iW.drop 4 iA).trans (by delta mtI;exact wk)),rfl,?_⟩;refine GF (p:=(sys.2.getD ov default).1.length<2^63) (fun X a W hst=>by have:=G3 (i:=4) (cs1:=[]) (cs2:=[iH 1 iD (sys.2.getD ov default).2]) (ds:=((sys.2.getD ov default).1).map iD) (e:=1) (nl:=none) hst rfl;simpa using this) fun hlenL=>?_
 refine mh (kE rfl (iB ?_));delta mtI;refine jd ?_;refine⟨Ru sys l ov 0,(by delta Ru;exact wk),rfl,?_⟩;refine vh ?_;refine EC (ι:=Nat×List Ns) (fun p=>Ru sys l ov p.1) (fun p=>some ((fun p:Nat×List Ns=>(p.2++rest).map fun x=>[mE x]) p)) (fun p=>p.1<=(sys.2.getD ov default).1.length/\EG sys ov ((sys.2.getD ov default).1.length-p.1)=some p.2) (fun p=>(sys.2.getD ov default).1.length-p.1) (0,xs) ⟨cS _,hxs⟩ .refl (fun _=>rfl) ?_;clear hxs;rintro⟨iY,r2⟩ ⟨hat,h⟩;simp only at hat h⊢;refine mh (kE rfl (iB ?_));delta Ru;by_cases hla:iY<(sys.2.getD ov default).1.length
 rotate_left
 ·have hc:decide ((iY:Int)<((sys.2.getD ov default).1.length:Int))=false:=by simpa using hla
  refine uE hc ?_;refine⟨[.d (.lit (.func (.yield l) #[] #[])),.pv [iH 1 iD sys.1,iH 2 iC sys.2],.iO,.d (iD (ov:Int)),.pv [iH 1 iD (sys.2.getD ov default).1,iH 1 iD (sys.2.getD ov default).2]]++List.replicate 6 .iO++[.d (iH 2 iC sys.2),.d (iD (sys.2.length:Int)),.d (iD (ov:Int))]++List.replicate 5 .iO++[.d (iH 1 iD (sys.2.getD ov default).1),.d (iD ((sys.2.getD ov default).1.length:Int)),.d (iD (iY:Int)),.d (bD false)]++List.replicate 32 .iO,wk,rfl,mh (kE rfl (iB ?_))⟩;refine jd ?_;have:iY=(sys.2.getD ov default).1.length:=by omega
  subst this;rw[cN]at h;cases h;refine⟨Ok sys l ov,(by delta Ok;exact wk),rfl,?_⟩;show Ft _ _ _ _ _ _;refine kE rfl (iB ?_);delta Ok;refine jd ?_;have hw1:IntKind.i64.wrap ((ov:Int)+1)=((ov+1:Nat):Int):=by rw[wrap_i64 iA iA];omega
  rw[hw1];refine⟨Ok sys l (ov+1),(by delta Ok;exact wk),rfl,(ov+1,rest),⟨⟨iA,?_⟩,by simp only;omega⟩,.refl,rfl⟩;simp only;rw[show sys.2.length-(ov+1)=k0 by omega];exact hrest
 have hc:decide ((iY:Int)<((sys.2.getD ov default).1.length:Int))=true:=by simpa using hla
 refine uE hc ?_;refine⟨[.d (.lit (.func (.yield l) #[] #[])),.pv [iH 1 iD sys.1,iH 2 iC sys.2],.iO,.d (iD (ov:Int)),.pv [iH 1 iD (sys.2.getD ov default).1,iH 1 iD (sys.2.getD ov default).2]]++List.replicate 6 .iO++[.d (iH 2 iC sys.2),.d (iD (sys.2.length:Int)),.d (iD (ov:Int))]++List.replicate 5 .iO++[.d (iH 1 iD (sys.2.getD ov default).1),.d (iD ((sys.2.getD ov default).1.length:Int)),.d (iD (iY:Int)),.d (bD true)]++List.replicate 32 .iO,wk,rfl,mh (kE rfl (iB ?_))⟩;refine jd ?_;refine⟨Ru sys l ov iY,(by delta Ru;exact wk),rfl,?_⟩;obtain⟨k1,hk1⟩:∃k1,(sys.2.getD ov default).1.length-iY=k1+1:=⟨(sys.2.getD ov default).1.length-iY-1,iA⟩;rw[hk1]at h;simp only[EG]at h;rw[show(sys.2.getD ov default).1.length-(k1+1)=iY by omega]at h;obtain⟨xs2,hxs2,h⟩:=av.1 h;obtain⟨rest2,hrest2,hr2⟩:=aB.1 h;subst hr2;clear h;rw[aF];refine mh (vh (mh (kE rfl (iB ?_))));delta Ru;refine jd ?_;repeat(refine CQ iA ?_;refine jd ?_)
 refine⟨mtJ sys l ov iY,(by delta mtJ;exact wk),rfl,mh (kE rfl (iB ?_))⟩;delta mtJ;refine jd ?_;refine⟨Iw sys l ov iY 0,(by delta Iw;exact wk),rfl,vh ?_⟩;refine EC (ι:=Nat×List Ns) (fun p=>Iw sys l ov iY p.1) (fun p=>some ((fun p:Nat×List Ns=>(p.2++(rest2++rest)).map fun x=>[mE x]) p)) (fun p=>p.1<=sys.2.length/\zS sys ov iY (sys.2.length-p.1)=some p.2) (fun p=>sys.2.length-p.1) (0,xs2) ⟨cS _,hxs2⟩ .refl (fun _=>rfl) ?_;clear hxs2;rintro⟨un,ys⟩ ⟨hun,h⟩;simp only at hun h⊢;refine mh (kE rfl (iB ?_));delta Iw;by_cases hlu:un<sys.2.length
 rotate_left
 ·have hc:decide ((un:Int)<(sys.2.length:Int))=false:=by simpa using hlu
  refine uE hc ?_;refine⟨[.d (.lit (.func (.yield l) #[] #[])),.pv [iH 1 iD sys.1,iH 2 iC sys.2],.iO,.d (iD (ov:Int)),.pv [iH 1 iD (sys.2.getD ov default).1,iH 1 iD (sys.2.getD ov default).2],.d (iD (iY:Int)),.d (iD ((sys.2.getD ov default).1.getD iY default))]++List.replicate 4 .iO++[.d (iH 2 iC sys.2),.d (iD (sys.2.length:Int)),.d (iD (ov:Int))]++List.replicate 5 .iO++[.d (iH 1 iD (sys.2.getD ov default).1),.d (iD ((sys.2.getD ov default).1.length:Int)),.d (iD (iY:Int))]++List.replicate 5 .iO++[.d (iH 2 iC sys.2),.d (iD (sys.2.length:Int)),.d (iD (un:Int)),.d (bD false)]++List.replicate 24 .iO,wk,rfl,mh (kE rfl (iB ?_))⟩;refine jd ?_;have:un=sys.2.length:=by omega
  subst this;rw[cN]at h;cases h;refine⟨Ru sys l ov iY,(by delta Ru;exact wk),rfl,?_⟩;show Ft _ _ _ _ _ _;refine kE rfl (iB ?_);delta Ru;refine jd ?_;have hw1:IntKind.i64.wrap ((iY:Int)+1)=((iY+1:Nat):Int):=by rw[wrap_i64 iA iA];omega
  rw[hw1];refine⟨Ru sys l ov (iY+1),(by delta Ru;exact wk),rfl,(iY+1,rest2),⟨⟨iA,?_⟩,by simp only;omega⟩,.refl,rfl⟩;simp only;rw[show(sys.2.getD ov default).1.length-(iY+1)=k1 by omega];exact hrest2
 have hc:decide ((un:Int)<(sys.2.length:Int))=true:=by simpa using hlu
 refine uE hc ?_;refine⟨[.d (.lit (.func (.yield l) #[] #[])),.pv [iH 1 iD sys.1,iH 2 iC sys.2],.iO,.d (iD (ov:Int)),.pv [iH 1 iD (sys.2.getD ov default).1,iH 1 iD (sys.2.getD ov default).2],.d (iD (iY:Int)),.d (iD ((sys.2.getD ov default).1.getD iY default))]++List.replicate 4 .iO++[.d (iH 2 iC sys.2),.d (iD (sys.2.length:Int)),.d (iD (ov:Int))]++List.replicate 5 .iO++[.d (iH 1 iD (sys.2.getD ov default).1),.d (iD ((sys.2.getD ov default).1.length:Int)),.d (iD (iY:Int))]++List.replicate 5 .iO++[.d (iH 2 iC sys.2),.d (iD (sys.2.length:Int)),.d (iD (un:Int)),.d (bD true)]++List.replicate 24 .iO,wk,rfl,mh (kE rfl (iB ?_))⟩;refine jd ?_;refine⟨Iw sys l ov iY un,(by delta Iw;exact wk),rfl,?_⟩;obtain⟨k2,hk2⟩:∃k2,sys.2.length-un=k2+1:=⟨sys.2.length-un-1,iA⟩;rw[hk2]at h;simp only[zS]at h;rw[show sys.2.length-(k2+1)=un by omega]at h;have hnext:∀(Q:wX) ys',zS sys ov iY k2=some ys'->∀env1,iW 0 env1 [] (Iw sys l ov iY un) []->Ft Tryz.prog l (.iE (sq 52 [bi .add 29 1]++sq 29 [mv 52])) (Oa (fun p:Nat×List Ns=>Iw sys l ov iY p.1) (fun p:Nat×List Ns=>some ((fun p:Nat×List Ns=>(p.2++(rest2++rest)).map fun x=>[mE x]) p)) (fun i':Nat×List Ns=>(i'.1<=sys.2.length/\zS sys ov iY (sys.2.length-i'.1)=some i'.2)/\sys.2.length-i'.1<sys.2.length-un) Q) env1 (some ((ys'++(rest2++rest)).map fun x=>[mE x])):=fun Q ys' hys' env1 hw=>by
  refine Mp hw rfl (kE rfl (iB ?_));delta Iw;refine jd ?_;have hw1:IntKind.i64.wrap ((un:Int)+1)=((un+1:Nat):Int):=by rw[wrap_i64 iA iA];omega
  rw[hw1];refine⟨Iw sys l ov iY (un+1),(by delta Iw;exact wk),rfl,(un+1,ys'),⟨⟨iA,?_⟩,by simp only;omega⟩,.refl,rfl⟩;simp only;rw[show sys.2.length-(un+1)=k2 by omega];exact hys'
 refine mh (vh (mh (kE rfl (iB ?_))));delta Iw;refine jd ?_;refine⟨mt7 sys l ov iY un,(by delta mt7;exact wk),rfl,mh (kE rfl (iB ?_))⟩;delta mt7;by_cases hneg:(sys.2.getD ov default).1.getD iY default<0
 ·have hc:decide ((sys.2.getD ov default).1.getD iY default<0)=true:=by simpa using hneg
  simp only[hc,aA]at h;refine uE hc ?_;exact⟨Iw sys l ov iY un,(by delta Iw;exact wk),rfl,hnext _ ys h _ .refl⟩
 have hc:decide ((sys.2.getD ov default).1.getD iY default<0)=false:=by simpa using hneg
 simp only[hc,aq,aE]at h;refine uE hc ?_;refine⟨mt7 sys l ov iY un,(by delta mt7;exact wk),rfl,mh (kE rfl (iB ?_))⟩;delta mt7;refine jd ?_;refine G4 [] [(21,200000)] h (fun rt hrt h=>?_) fun rf hrf h=>?_
 ·obtain⟨ys',hys',hy⟩:=aB.1 h;subst hy;refine⟨mt9 sys l ov iY un,(iW.drop 200000 iA).trans (by delta mt9;exact wk),rfl,mh (P0 (sq 42 [mv 9,mv 42]++sg 43 true 44 [mv 0,mv 3,mv 5,mv 7,.build [.lit (.int .i64 0),.lit (.int .i64 0),.lit (.int .i64 0)] [(0,1,(t0 45)),(1,1,(t0 46)),(2,1,(t0 47))]]) (sg 43 true 50 [nt 49]++sq 51 [pa 43 50]) 49 43 true (t0 44) [(t0 48)] rfl (qC ?_))⟩;delta mt9;refine jd ?_;refine⟨mtY sys l ov iY un,(by delta mtY;exact wk),rfl,rfl,rfl,rfl,fun b=>qC ?_⟩;delta mtY;refine jd ?_;refine⟨mtB sys l ov iY un b,(by delta mtB;exact wk),rfl,kE rfl (iB ?_)⟩;delta mtB;cases b with
  |false=>refine jd ?_;exact⟨Iw sys l ov iY un,(by delta Iw;exact wk),rfl,.inr rfl,.inr rfl⟩
  |true=>refine jd ?_;exact⟨Iw sys l ov iY un,(by delta Iw;exact wk),rfl,hnext _ ys' hys' _ .refl⟩
 ·refine⟨[.d (.lit (.func (.yield l) #[] #[])),.pv [iH 1 iD sys.1,iH 2 iC sys.2],.iO,.d (iD (ov:Int)),.pv [iH 1 iD (sys.2.getD ov default).1,iH 1 iD (sys.2.getD ov default).2],.d (iD (iY:Int)),.d (iD ((sys.2.getD ov default).1.getD iY default)),.d (iD (un:Int)),.iO,.d (bD false),.iO,.d (iH 2 iC sys.2),.d (iD (sys.2.length:Int)),.d (iD (ov:Int))]++List.replicate 5 .iO++[.d (iH 1 iD (sys.2.getD ov default).1),.d (iD ((sys.2.getD ov default).1.length:Int)),.d (iD (iY:Int))]++List.replicate 5 .iO++[.d (iH 2 iC sys.2),.d (iD (sys.2.length:Int)),.d (iD (un:Int))]++List.replicate 25 .iO,(iW.drop 200000 iA).trans wk,rfl,mh (kE rfl (iB ?_))⟩;refine jd ?_;refine⟨[.d (.lit (.func (.yield l) #[] #[])),.pv [iH 1 iD sys.1,iH 2 iC sys.2],.iO,.d (iD (ov:Int)),.pv [iH 1 iD (sys.2.getD ov default).1,iH 1 iD (sys.2.getD ov default).2],.d (iD (iY:Int)),.d (iD ((sys.2.getD ov default).1.getD iY default))]++List.replicate 4 .iO++[.d (iH 2 iC sys.2),.d (iD (sys.2.length:Int)),.d (iD (ov:Int))]++List.replicate 5 .iO++[.d (iH 1 iD (sys.2.getD ov default).1),.d (iD ((sys.2.getD ov default).1.length:Int)),.d (iD (iY:Int))]++List.replicate 5 .iO++[.d (iH 2 iC sys.2),.d (iD (sys.2.length:Int)),.d (iD (un:Int))]++List.replicate 21 .iO++[.d (bD false),.iO,.iO,.iO],wk,rfl,kE rfl (iB ?_)⟩;refine jd ?_;exact⟨Iw sys l ov iY un,(by delta Iw;exact wk),rfl,hnext _ ys h _ .refl⟩
def xX(sys:JP):Option Unit:=some ()
instance Q_{sys:JP}:jf (xX sys) fun _=>iR Tryz.prog 101 [.d (iU sys)] [] 0 fun xx ss=>xx=.fn 127 [] [.pv [iH 1 iD sys.1,iH 2 iC sys.2]]/\ss=[]:=⟨@fun rr h=>by
 have h1:iR Tryz.prog 101 [.d (iU sys)] [] 0 fun xx ss=>xx=.fn 127 [] [.ptr 1 0]/\ss=(1,.obj 37 ([iH 1 iD sys.1,iH 2 iC sys.2].map .d))::[]:=by
  refine abx.oo (iB ?_);delta Yr;refine jd ?_;exact⟨[],by simp,nh⟩
 exact h1.pvs rfl rfl rfl⟩
end Go.Proofs.YtjgbnaihpicpgabGreat
namespace Go.Proofs.YtjgbnaihpicpgabGreat
open Go oq
attribute [local irreducible] uy zk yt nN mY oR kj C7 D_ BZ D9 Be vL mA oG Dk ju lM
set_option maxHeartbeats 4000000
set_option maxRecDepth 4000
def aep:iJ:=
 (.seq (.iE (sq 1 [bo 1 37 0,.alloc 2 79 [.sl 0 (some true) []],.alloc 3 4 [.lit (.bool false)]])) (.seq (.iE (sq 4 [.alloc 4 79 [.sl 0 (some true) []]])) (.seq (.seq (.iE (sq 8 [la 2 1,cf 101 [8]])) (.block 0 (.HR (t0 9) [10] (.iE (sq 5 [.alloc 5 135 [.lit (.int .i64 0),.lit (.int .i64 0),.lit (.int .i64 0)]]++s0 (sr 3 5 10))) (.block 1 (.seq (.iE (sq 12 [la 2 1,fa 0 5,ld 13,fa 1 5,ld 15,fa 2 5,ld 17,cf 102 [12,14,16,18]]++sq 11 [mv 19]++sq 20 [ex 11 0,ex 11 1]++sq 6 [.alloc 6 47 [.sl 0 (some true) [],.sl 0 (some true) [],.sl 0 (some true) [],.lit (.int .i64 0),.lit (.int .i64 0),.lit (.int .i64 0)]]++s0 (sr 6 6 20)++sq 7 [mv 21])) (.seq (.seq (.iE (sq 22 [mv 7,nt 22,mv 23]++sg 24 false 25 [ld 4,ln 25,bi .eql 26 64]++sq 28 [po 24 27])) (.cond (t0 28) (.seq (.iE (s0 (.store 1 (t0 2) (.const (.slice none 0 0)))++s0 (.store 1 (t0 3) (.const (.bool false))))) .ret) .skip)) (.iE (sq 29 [ld 4,la 6 6,.nY 31 47 6 [(t0 30)],ap 32 47 6 96 29 31]++s0 (sr 1 4 32))))))))) (.seq (.iE (sq 33 [ld 4]++s0 (sr 1 2 33)++s0 (.store 1 (t0 3) (.const (.bool true))))) .ret))))
theorem afS:jV Tryz.prog 58 aep 34 [.cell 2 1 false,.cell 3 1 false]:=mf Tryz.func58 Tryz.ntmps58
def og(sys:gW)(els:(List h_)):(Nat×ic)->Option ((Nat×ic)⊕iw)
 |(jj,out)=>
  if jj<els.length then
   (oD sys ((els.getD jj default).1) ((els.getD jj default).2.1) ((els.getD jj default).2.2)).bind fun r_1=>
   if r_1.2=true then
    if((out.length:Int)==64)=true then
     Option.map Sum.inr (
      some ([],false))
    else
     if(out.length+1)*96<=140737488355328 then
      some (.inl (jj+1,(out++[r_1.1])))
     else none
   else
    Option.map Sum.inr (
     some ([],false))
  else
   Option.map Sum.inr (
    some (out,true))
def vQ(sys:gW):Option iw:=
 (xX sys).bind fun r=>
 (Ef sys).bind fun els=>
 iL (og sys els) (0,[])
instance VI{sys:gW}:jf (vQ sys) fun rr=>mO Tryz.prog 58 [iU sys] [(iH 6 kN) rr.1,bD rr.2]:=⟨@fun rr h=>by
 delta vQ at h;refine afS.mz (iB ?_);delta aep;refine jd ?_;refine tg [] [] h fun r hr h=>?_
 obtain⟨els,hels,h⟩:=av.1 h;refine aaF (xs:=els) h (KB hels) 5 (fun pp=>[(1,.obj 37 [.d (iH 1 iD sys.1),.d (iH 2 iC sys.2)]),(2,.obj 79 [.d (.sl 0 (some true) [])]),(3,.obj 4 [.d (bD false)]),(4,.obj 79 [.own 6 32 (List.map kN pp)]),(32,.tok 47 6 pp.length)]) ?_ ?_ ?_
 ·try dsimp only
  refine(iW.wT 4 0 32 47 6 rfl rfl rfl).trans ?_;exact wk
 ·rintro jj out t1 hj h hb1;unfold og at h;try dsimp only at h
  rw[ah hj]at h;refine jd ?_;refine TP h fun r_1 hr_1 h=>?_
  refine it h (fun hc1 h=>?_) fun hc1 h=>?_
  ·refine it h (fun hc2 h=>?_) fun hc2 h=>?_
   ·refine RE.of (s2:=[(1,.obj 37 [.d (iH 1 iD sys.1),.d (iH 2 iC sys.2)]),(2,.obj 79 [.d (.sl 0 (some true) [])]),(3,.obj 4 [.d (bD false)]),(4,.obj 79 [.d (iH 6 kN out)])]) ((iW.drop 5 iA).trans ((iW.drop 6 iA).trans ((iW.drop 32 iA).trans (wk (ju.refl _))))) ?_;refine jd ?_;exact lW
   refine jZ h fun hp h=>?_
   cases h;refine⟨_,rfl,?_⟩;exact⟨_,(iW.drop 5 iA).trans ((iW.drop 6 iA).trans ((iW.drop 31 iA).trans (wk (ju.refl _))))⟩
  refine RE.of (s2:=[(1,.obj 37 [.d (iH 1 iD sys.1),.d (iH 2 iC sys.2)]),(2,.obj 79 [.d (.sl 0 (some true) [])]),(3,.obj 4 [.d (bD false)]),(4,.obj 79 [.d (iH 6 kN out)])]) ((iW.drop 5 iA).trans ((iW.drop 6 iA).trans ((iW.drop 32 iA).trans (wk (ju.refl _))))) ?_;refine jd ?_;exact lW
 ·rintro out t1 h hb1;unfold og at h;try dsimp only at h
  rw[aj (eP _)]at h;refine jd ?_;exact lW⟩
end Go.Proofs.YtjgbnaihpicpgabGreat
