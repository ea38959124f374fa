/- A part of the proof about FnJoinedPeaks (G2). -/
import Derived.Test.YtjgbnaihpicpgaaGreatDoorPd
set_option linter.all false
noncomputable section
namespace Go.Proofs.YtjgbnaihpicpgaaGreatDoor
open Go mm
attribute [local irreducible] rj vP uV mz lN nj kj Au Bm zm Bl yp tF lM nc AJ iS kN
set_option maxHeartbeats 4000000
set_option maxRecDepth 4000
def kI(x:gx):D:=.agg [(ia 1 (ia 1 iD)) x]
instance:wC kI 1:=⟨fun _=>rfl⟩
attribute [go_sem] kI
def Tw:ie:=
 (.seq (.h_ (sq 3 [bo 3 30 0]++sq 6 [.mv (.const (.slice none 0 0))])) (.seq (.h_ (sq 7 [mv 1,mv 2,la 1 3,mv 1,mv 2,cf 127 [9,10,11],.slc (t0 7) 1 (some (t0 8)) (some (t0 12)) none]++sq 6 [mv 13])) .ret))
theorem W8:kH Tryz.prog 130 Tw 14 [.tmp 6]:=mf Tryz.func130 Tryz.ntmps130
def kg(sig:gv)(t:gv)(at':Int):Option gv:=
 (lz sig t at').bind fun r=>
 if 0<=at'/\at'<=r/\r<=(t.length:Int)then
  some ((t.take r.toNat).drop at'.toNat)
 else none
instance QL{sig:gv}{t:gv}{at':Int}:iR (kg sig t at') fun rr=>jU Tryz.prog 130 [jd sig,(ia 1 iD) t,iD at'] ((ia 1 iD) rr):=⟨@fun rr h=>by
 delta kg at h;refine W8.jC (gZ ?_);delta Tw;refine iN ?_;exact mA⟩
def Tg:ie:=
 (.seq (.h_ (sq 4 [mb false])) (.seq (.seq (.h_ (sq 6 [mv 0,ln 6,mv 1,ln 8,bn .neq 7 9])) (.cond (t0 10) (.seq (.h_ (sq 4 [mb false])) .ret) .skip)) (.seq (.seq (.h_ (sq 11 [mv 0,ln 11,mi 0])) (.block 0 (.loop (.seq (.h_ (sq 14 [bn .lss 13 12])) (.seq (.cond (t0 14) .skip (.exit 0)) (.seq (.block 1 (.seq (.h_ (sq 15 [mv 13]++sq 5 [mv 15])) (.seq (.draw (sq 16 [mv 0,mv 5,ix 1 16 17,ld 18,mv 1,mv 5,ix 1 20 21,ld 22,bn .neq 19 23]) [[],[],[0,1],[2],[],[],[4,5],[6],[3,7]]) (.cond (t0 24) (.seq (.h_ (sq 4 [mb false])) .ret) .skip)))) (.h_ (sq 25 [bi .add 13 1]++sq 13 [mv 25])))))))) (.seq (.h_ (sq 4 [mb true])) .ret))))
theorem WJ:kH Tryz.prog 109 Tg 26 [.tmp 4]:=mf Tryz.func109 Tryz.ntmps109
def kM(s1:gv)(s2:gv):Int->Option gR
 |v13=>
  if(decide (v13<(s1.length:Int)))=true then
   if 0<=v13/\v13<(s1.length:Int)then
    if 0<=v13/\v13<(s2.length:Int)then
     if((s1.getD v13.toNat default) != (s2.getD v13.toNat default))=true then
      Option.map Sum.inr (
       some false)
     else
      some (.inl (IntKind.i64.wrap (v13+1)))
    else none
   else none
  else
   Option.map Sum.inr (
    some true)
def iQ(s1:gv)(s2:gv):Option Bool:=
 if((s1.length:Int) != (s2.length:Int))=true then
  some false
 else
  iw (kM s1 s2) 0
instance Dd{s1:gv}{s2:gv}:iR (iQ s1 s2) fun rr=>jU Tryz.prog 109 [(ia 1 iD) s1,(ia 1 iD) s2] (bD rr):=⟨@fun rr h=>by
 delta iQ at h;refine WJ.jC (gZ ?_);delta Tg;refine iN ?_;refine iF h fun hc h=>?_
 refine kT h [4,5,13,14,15,16,17,18,19,20,21,22,23,24,25] (fun pp=>[(13,.d (iD pp))]) (fun pp=>[]) ?_;rintro v13 t1 h hb1;unfold kM at h;try dsimp only at h
 refine gZ (iN ?_);exact mA⟩
def TU:ie:=
 (.seq (.h_ (sq 4 [bo 4 30 0]++sq 7 [bo 7 234 3,.alloc 8 234 [.sl 0 (some true) [],.sl 0 (some true) [],.sl 0 (some true) [],.sl 0 (some true) [],.sl 0 (some true) [],.sl 0 (some true) [],.sl 0 (some true) [],.sl 0 (some true) [],.sl 0 (some true) [],.sl 0 (some true) [],.sl 0 (some true) [],.sl 0 (some true) [],.sl 0 (some true) [],.sl 0 (some true) [],.sl 0 (some true) [],.sl 0 (some true) [],.sl 0 (some true) [],.sl 0 (some true) [],.sl 0 (some true) [],.sl 0 (some true) [],.sl 0 (some true) [],.sl 0 (some true) [],.sl 0 (some true) [],.sl 0 (some true) []],mb false])) (.seq (.h_ (sq 10 [mi 0])) (.seq (.seq (.h_ (sq 14 [mv 1,ln 14,mi 0])) (.block 0 (.loop (.seq (.h_ (sq 17 [bn .lss 16 15])) (.seq (.cond (t0 17) .skip (.exit 0)) (.seq (.block 1 (.seq (.h_ (sq 18 [ix 1 14 16,ld 18]++sq 12 [mv 19])) (.seq (.seq (.h_ (sq 20 [mv 10,mv 2,ln 21,bn .geq 20 22])) (.cond (t0 23) (.seq (.h_ (sq 24 [la 24 7]++s0 (sr 24 8 24)++sq 9 [mb false])) .ret) .skip)) (.seq (.seq (.h_ (sq 25 [mv 12,bi .geq 25 0])) (.cond (t0 26) (.seq (.seq (.h_ (sq 27 [mv 2,mv 10,ix 1 27 28,ld 29,mv 12,bn .neq 30 31])) (.cond (t0 32) (.seq (.h_ (sq 33 [la 24 7]++s0 (sr 24 8 33)++sq 9 [mb false])) .ret) .skip)) (.seq (.h_ (sq 34 [mv 10,bi .add 34 1]++sq 10 [mv 35])) (.exit 1))) .skip)) (.seq (.h_ (sq 36 [la 1 4,mv 2,mv 10,cf 130 [36,37,38]]++sq 13 [mv 39])) (.seq (.seq (.h_ (sq 40 [mv 12,.bin .sub (i0 (-1)) (t0 40),.xN 1 24 (t0 7) (t0 41),ld 42,.uT false (t0 43)])) (.cond (t0 44) (.h_ (sq 45 [mv 12,.bin .sub (i0 (-1)) (t0 45),mv 13,.xN 1 24 (t0 7) (t0 46)]++s0 (sr 1 48 47))) (.seq (.h_ (sq 49 [mv 12,.bin .sub (i0 (-1)) (t0 49),.xN 1 24 (t0 7) (t0 50),ld 51,mv 13,cf 109 [52,53],nt 54])) (.cond (t0 55) (.seq (.h_ (sq 56 [la 24 7]++s0 (sr 24 8 56)++sq 9 [mb false])) .ret) .skip)))) (.h_ (sq 57 [mv 10,mv 13,ln 58,bn .add 57 59]++sq 10 [mv 60])))))))) (.h_ (sq 61 [bi .add 16 1]++sq 16 [mv 61])))))))) (.seq (.h_ (sq 62 [la 24 7]++s0 (sr 24 8 62)++sq 9 [mb true])) .ret))))
theorem Xz:kH Tryz.prog 160 TU 63 [.cell 8 24 true,.tmp 9]:=mf Tryz.func160 Tryz.ntmps160
def rm(sig:gv)(p:gv)(t:gv):(Int×Int×gx)->Option ((Int×Int×gx)⊕(gx×Bool))
 |(at',v16,b_1)=>
  if(decide (v16<(p.length:Int)))=true then
   if 0<=v16/\v16<(p.length:Int)then
    if(decide ((t.length:Int)<=at'))=true then
     if b_1.length=24 then
      if b_1.length=24 then
       Option.map Sum.inr (
        some (b_1,false))
      else none
     else none
    else
     if(decide (0<=(p.getD v16.toNat default)))=true then
      if 0<=at'/\at'<(t.length:Int)then
       if((t.getD at'.toNat default) != (p.getD v16.toNat default))=true then
        if b_1.length=24 then
         if b_1.length=24 then
          Option.map Sum.inr (
           some (b_1,false))
         else none
        else none
       else
        some (.inl ((IntKind.i64.wrap (at'+1)),(IntKind.i64.wrap (v16+1)),b_1))
      else none
     else
      (kg sig t at').bind fun r=>
      if 0<=(IntKind.i64.wrap ((-1)-(p.getD v16.toNat default)))/\(IntKind.i64.wrap ((-1)-(p.getD v16.toNat default)))<24/\(IntKind.i64.wrap ((-1)-(p.getD v16.toNat default)))<(b_1.length:Int)then
       if(b_1.getD (IntKind.i64.wrap ((-1)-(p.getD v16.toNat default))).toNat default).isEmpty=true then
        if 0<=(IntKind.i64.wrap ((-1)-(p.getD v16.toNat default)))/\(IntKind.i64.wrap ((-1)-(p.getD v16.toNat default)))<24/\(IntKind.i64.wrap ((-1)-(p.getD v16.toNat default)))<(b_1.length:Int)then
         if 0<r.length then
          some (.inl ((IntKind.i64.wrap (at'+(r.length:Int))),(IntKind.i64.wrap (v16+1)),(b_1.set (IntKind.i64.wrap ((-1)-(p.getD v16.toNat default))).toNat r)))
         else none
        else none
       else
        if 0<=(IntKind.i64.wrap ((-1)-(p.getD v16.toNat default)))/\(IntKind.i64.wrap ((-1)-(p.getD v16.toNat default)))<24/\(IntKind.i64.wrap ((-1)-(p.getD v16.toNat default)))<(b_1.length:Int)then
         (iQ (b_1.getD (IntKind.i64.wrap ((-1)-(p.getD v16.toNat default))).toNat default) r).bind fun r_1=>
         if r_1=true then
          some (.inl ((IntKind.i64.wrap (at'+(r.length:Int))),(IntKind.i64.wrap (v16+1)),b_1))
         else
          if b_1.length=24 then
           if b_1.length=24 then
            Option.map Sum.inr (
             some (b_1,false))
           else none
          else none
        else none
      else none
   else none
  else
   Option.map Sum.inr (
    if b_1.length=24 then
     if b_1.length=24 then
      some (b_1,true)
     else none
    else none)
def oL(sig:gv)(p:gv)(t:gv)(b:gx):Option (gx×Bool):=
 iw (rm sig p t) (0,0,b)
instance Lh{sig:gv}{p:gv}{t:gv}{b:gx}:iR (oL sig p t b) fun rr=>oH Tryz.prog 160 [jd sig,(ia 1 iD) p,(ia 1 iD) t,(Zi (oI 1 iD)) b] [(Zi (oI 1 iD)) rr.1,bD rr.2]:=⟨@fun rr h=>by
 delta oL at h;refine Xz.pg (gZ ?_);delta TU;refine iN ?_;refine kT h [9,10,12,13,16,17,18,19,20,21,22,23,24,25,26,27,28,29,30,31,32,33,34,35,36,37,38,39,40,41,42,43,44,45,46,47,48,49,50,51,52,53,54,55,56,57,58,59,60,61] (fun pp=>[(10,.d (iD pp.1)),(16,.d (iD pp.2.1))]) (fun pp=>[(4,.obj 30 [.d (ia 1 iD sig)]),(7,.obj 234 (List.map (aD (oI 1 iD)) pp.2.2)),(8,.obj 234 [.d (.sl 0 (some true) []),.d (.sl 0 (some true) []),.d (.sl 0 (some true) []),.d (.sl 0 (some true) []),.d (.sl 0 (some true) []),.d (.sl 0 (some true) []),.d (.sl 0 (some true) []),.d (.sl 0 (some true) []),.d (.sl 0 (some true) []),.d (.sl 0 (some true) []),.d (.sl 0 (some true) []),.d (.sl 0 (some true) []),.d (.sl 0 (some true) []),.d (.sl 0 (some true) []),.d (.sl 0 (some true) []),.d (.sl 0 (some true) []),.d (.sl 0 (some true) []),.d (.sl 0 (some true) []),.d (.sl 0 (some true) []),.d (.sl 0 (some true) []),.d (.sl 0 (some true) []),.d (.sl 0 (some true) []),.d (.sl 0 (some true) []),.d (.sl 0 (some true) [])])]) ?_;rintro⟨at',v16,b_1⟩ t1 h hb1;unfold rm at h;try dsimp only at h
 refine gZ (iN ?_);refine iT h fun hc h=>?_
 refine j_ h fun hp h=>?_
 refine iF h fun hc h=>?_
 refine iF h fun hc h=>?_
 refine rC h fun r hr h=>?_
 refine j_ h fun hp h=>?_
 refine iT h fun hc h=>?_
 refine j_ h fun hp h=>?_
 refine j_ h fun hp h=>?_
 cases h;refine⟨_,rfl,?_⟩;refine(iL.V8 (s':=[(4,.obj 30 [.d (ia 1 iD sig)]),(7,.obj 234 (List.map (aD (oI 1 iD)) (b_1.set (IntKind.i64.wrap ((-1)-(p.getD v16.toNat default))).toNat r))),(8,.obj 234 [.d (.sl 0 (some true) []),.d (.sl 0 (some true) []),.d (.sl 0 (some true) []),.d (.sl 0 (some true) []),.d (.sl 0 (some true) []),.d (.sl 0 (some true) []),.d (.sl 0 (some true) []),.d (.sl 0 (some true) []),.d (.sl 0 (some true) []),.d (.sl 0 (some true) []),.d (.sl 0 (some true) []),.d (.sl 0 (some true) []),.d (.sl 0 (some true) []),.d (.sl 0 (some true) []),.d (.sl 0 (some true) []),.d (.sl 0 (some true) []),.d (.sl 0 (some true) []),.d (.sl 0 (some true) []),.d (.sl 0 (some true) []),.d (.sl 0 (some true) []),.d (.sl 0 (some true) []),.d (.sl 0 (some true) []),.d (.sl 0 (some true) []),.d (.sl 0 (some true) [])])]) (iS.refl _) (by exact(zR (zJ.refl _) (zR ⟨rfl,G8 gY (by first|exact(zC gY).2 trivial|exact(vE gY).2 trivial)⟩ (zR (zJ.refl _) CC))))).trans ?_;exact wk⟩
def TX:ie:=
 (.seq (.h_ (sq 1 [bo 1 234 0,.alloc 2 180 [.sl 0 (some true) []]])) (.seq (.h_ (sq 3 [.FU (t0 1) 1 24 none none none,.build [.sl 0 (some true) []] [(0,1,(t0 3))]]++s0 (sr 1 2 4))) .ret))
theorem XB:kH Tryz.prog 162 TX 5 [.cell 2 1 true]:=mf Tryz.func162 Tryz.ntmps162
def nM(b:gx):Option gx:=
 if b.length=24 then
  some b
 else none
instance F7{b:gx}:iR (nM b) fun rr=>jU Tryz.prog 162 [(Zi (oI 1 iD)) b] (kI rr):=⟨@fun rr h=>by
 delta nM at h;refine XB.T_ (gZ ?_);delta TX;refine iN ?_;refine j_ h fun hp h=>?_
 cases h;exact⟨_,_,(jw.aaA 1 (oI 1 iD) b gY rfl),El⟩⟩
def T0:ie:=
 (.seq (.h_ (sq 2 [.mv (.const (.slice none 0 0))])) (.seq (.h_ (sq 3 [mv 0,.bin .sub (i0 (-1)) (t0 3),.mP 5 2 1 [(t0 4)]]++sq 2 [mv 5])) .ret))
theorem XF:kH Tryz.prog 165 T0 6 [.tmp 2]:=mf Tryz.func165 Tryz.ntmps165
def rU(i:Int):Option gv:=
 some [(IntKind.i64.wrap ((-1)-i))]
instance ML{i:Int}:iR (rU i) fun rr=>jU Tryz.prog 165 [iD i] ((ia 1 iD) rr):=⟨@fun rr h=>by
 delta rU at h;refine XF.jC (gZ ?_);delta T0;refine iN ?_;exact mA⟩
def Tj:ie:=
 (.seq (.h_ (sq 2 [.mv (.const (.slice none 0 0))])) (.seq (.seq (.h_ (sq 3 [mv 0,.uT false (t0 3)])) (.cond (t0 4) (.seq (.h_ (sq 2 [.mv (.const (.slice none 0 0))])) .ret) .skip)) (.seq (.h_ (sq 5 [.mP 5 2 1 [],mv 0,ap 7 2 1 8 5 6]++sq 2 [mv 7])) .ret)))
theorem WM:kH Tryz.prog 112 Tj 8 [.tmp 2]:=mf Tryz.func112 Tryz.ntmps112
def jq(s:gv):Option gv:=
 K9 s (
  some []) (
  if(0+s.length)*8<=140737488355328 then
   some s
  else none)
instance Dc{s:gv}:iR (jq s) fun rr=>jU Tryz.prog 112 [(ia 1 iD) s] ((ia 1 iD) rr):=⟨@fun rr h=>by
 delta jq at h;refine WM.jC (gZ ?_);delta Tj;refine iN ?_;have h1:=Gh h;refine tF.of (fun he=>?_) ?_
 ·replace h:=h1.1 (by simpa using he);clear h1;refine iN ?_;exact mA
 ·replace h:=h1.2;clear h1;refine iN ?_;exact mA⟩
def TV:ie:=
 (.seq (.h_ (sq 1 [bo 1 180 0,.alloc 2 180 [.sl 0 (some true) []]])) (.seq (.h_ (sq 3 [.alloc 3 180 [.sl 0 (some true) []]])) (.seq (.seq (.h_ (sq 6 [fa 0 1,ld 6,ln 7,mi 0])) (.block 0 (.loop (.seq (.h_ (sq 10 [bn .lss 9 8])) (.seq (.cond (t0 10) .skip (.exit 0)) (.seq (.block 1 (.seq (.h_ (sq 11 [mv 9,ix 1 7 9,ld 12]++sq 4 [mv 11,mv 13])) (.seq (.seq (.h_ (sq 14 [mv 5,ln 14,bi .eql 15 0,mv 16]++sg 17 false 18 [mv 5,mv 4,cf 165 [19],cf 109 [18,20]]++sq 22 [po 17 21])) (.cond (t0 22) (.exit 1) .skip)) (.seq (.block 2 (.loop (.seq (.seq (.h_ (sq 23 [fa 0 3,ld 23,ln 24,mv 4,bn .lss 25 26])) (.cond (t0 27) .skip (.exit 2))) (.block 3 (.h_ (sq 28 [fa 0 3,ld 28,.mP 30 22 1 [(.const (.slice none 0 0))],ap 31 22 1 24 29 30,fa 0 3]++s0 (sr 1 32 31))))))) (.draw (sq 33 [fa 0 3,ld 33,mv 5,cf 112 [35],.mP 37 22 1 [(t0 36)],ap 38 22 1 24 34 37,fa 0 3]++s0 (sr 1 39 38)) [[],[0],[],[2],[3],[1,4,3],[0,1,2,3,4,5],[6,5,5,0,1,2,3,4,5]]))))) (.h_ (sq 40 [bi .add 9 1]++sq 9 [mv 40])))))))) (.seq (.h_ (sq 41 [la 1 3]++s0 (sr 1 2 41))) .ret))))
theorem XA:kH Tryz.prog 161 TV 42 [.cell 2 1 true]:=mf Tryz.func161 Tryz.ntmps161
def uJ(s:gx)(v9:Int):gx->Option (gx⊕((Int×gx)⊕gx))
 |out_1=>
  if(decide ((out_1.length:Int)<v9))=true then
   if(out_1.length+1)*24<=140737488355328 then
    some (.inl (out_1++[[]]))
   else none
  else
   Option.map Sum.inr (
    (jq (s.getD v9.toNat default)).bind fun r_2=>
    if(out_1.length+1)*24<=140737488355328 then
     some (.inl ((IntKind.i64.wrap (v9+1)),(out_1++[r_2])))
    else none)
def uI(s:gx):(Int×gx)->Option ((Int×gx)⊕gx)
 |(v9,out)=>
  if(decide (v9<(s.length:Int)))=true then
   if 0<=v9/\v9<(s.length:Int)then
    if(((s.getD v9.toNat default).length:Int)==0)=true then
     some (.inl ((IntKind.i64.wrap (v9+1)),out))
    else
     (rU v9).bind fun r=>
     (iQ (s.getD v9.toNat default) r).bind fun r_1=>
     if r_1=true then
      some (.inl ((IntKind.i64.wrap (v9+1)),out))
     else
      iw (uJ s v9) out
   else none
  else
   Option.map Sum.inr (
    some out)
def sN(s:gx):Option gx:=
 iw (uI s) (0,[])
instance QH{s:gx}:iR (sN s) fun rr=>jU Tryz.prog 161 [kI s] (kI rr):=⟨@fun rr h=>by
 delta sN at h;refine XA.jC (gZ ?_);delta TV;refine iN ?_;refine um h [4,5,9,10,11,12,13,14,15,16,17,18,19,20,21,22,23,24,25,26,27,28,29,30,31,32,33,34,35,36,37,38,39,40] (fun pp=>[(9,.d (iD pp.1))]) (fun pp=>[(1,.obj 180 [.d (ia 1 (ia 1 iD) s)]),(2,.obj 180 [.d (.sl 0 (some true) [])]),(3,.obj 180 [.own 1 38 (List.map (ia 1 iD) pp.2)]),(38,.tok 22 1 pp.2.length)]) ?_ ?_
 ·try dsimp only
  refine(iL.xC 3 0 38 22 1 rfl rfl rfl).trans ?_;exact wk
 rintro⟨v9,out⟩ t1 h hb1;unfold uI at h;try dsimp only at h
 refine gZ (iN ?_);refine iT h fun hc h=>?_
 refine j_ h fun hp h=>?_
 refine iF h fun hc h=>?_
 refine rC h fun r hr h=>?_
 refine rC h fun r_1 hr_1 h=>?_
 refine iF h fun hc h=>?_
 refine kT h [23,24,25,26,27,28,29,30,31,32] (fun pp=>[]) (fun pp=>[(1,.obj 180 [.d (ia 1 (ia 1 iD) s)]),(2,.obj 180 [.d (.sl 0 (some true) [])]),(3,.obj 180 [.own 1 38 (List.map (ia 1 iD) pp)]),(38,.tok 22 1 pp.length)]) ?_;rintro out_1 t2 h hb2;unfold uJ at h;try dsimp only at h
 refine gZ (iN ?_);refine it h (fun hc h=>?_) fun hc h=>?_
 ·refine j_ h fun hp h=>?_
  cases h;refine⟨_,rfl,?_⟩;refine(iL.drop 30 gY).trans ?_;exact wk
 replace h:=iZ h hb2;refine dC h fun r_2 hr_2 h=>?_
 refine j_ h fun hp h=>?_
 refine jV (by kernel_rfl) (iN ?_);cases h;refine⟨_,rfl,?_⟩;refine(iL.drop 37 gY).trans ?_;exact wk⟩
def TM:ie:=
 (.seq (.h_ (sq 3 [bo 3 30 0]++sq 6 [.alloc 6 180 [.sl 0 (some true) []],mb false])) (.seq (.h_ (sq 11 [la 1 3,mv 1,mv 2,.build [.sl 0 (some true) [],.sl 0 (some true) [],.sl 0 (some true) [],.sl 0 (some true) [],.sl 0 (some true) [],.sl 0 (some true) [],.sl 0 (some true) [],.sl 0 (some true) [],.sl 0 (some true) [],.sl 0 (some true) [],.sl 0 (some true) [],.sl 0 (some true) [],.sl 0 (some true) [],.sl 0 (some true) [],.sl 0 (some true) [],.sl 0 (some true) [],.sl 0 (some true) [],.sl 0 (some true) [],.sl 0 (some true) [],.sl 0 (some true) [],.sl 0 (some true) [],.sl 0 (some true) [],.sl 0 (some true) [],.sl 0 (some true) []] [],cf 160 [11,12,13,14]]++sq 10 [mv 15]++sq 16 [ex 10 0,ex 10 1]++sq 8 [.alloc 8 234 [.sl 0 (some true) [],.sl 0 (some true) [],.sl 0 (some true) [],.sl 0 (some true) [],.sl 0 (some true) [],.sl 0 (some true) [],.sl 0 (some true) [],.sl 0 (some true) [],.sl 0 (some true) [],.sl 0 (some true) [],.sl 0 (some true) [],.sl 0 (some true) [],.sl 0 (some true) [],.sl 0 (some true) [],.sl 0 (some true) [],.sl 0 (some true) [],.sl 0 (some true) [],.sl 0 (some true) [],.sl 0 (some true) [],.sl 0 (some true) [],.sl 0 (some true) [],.sl 0 (some true) [],.sl 0 (some true) [],.sl 0 (some true) []]]++s0 (sr 24 8 16)++sq 9 [mv 17])) (.seq (.seq (.h_ (sq 18 [mv 9,nt 18])) (.cond (t0 19) (.seq (.h_ (sq 20 [.build [.sl 0 (some true) []] []]++s0 (sr 1 6 20)++sq 7 [mb false])) .ret) .skip)) (.seq (.h_ (sq 21 [la 24 8,cf 162 [21],cf 161 [22]]++s0 (sr 1 6 23)++sq 7 [mb true])) .ret))))
theorem Xo:kH Tryz.prog 152 TM 24 [.cell 6 1 true,.tmp 7]:=mf Tryz.func152 Tryz.ntmps152
def qK(sig:gv)(p:gv)(t:gv):Option (gx×Bool):=
 (oL sig p t (List.replicate 24 [])).bind fun r=>
 if r.1.length=24 then
  if r.2=true then
   if r.1.length=24 then
    (nM r.1).bind fun r_1=>
    (sN r_1).bind fun r_2=>
    some (r_2,true)
   else none
  else
   some ([],false)
 else none
instance QF{sig:gv}{p:gv}{t:gv}:iR (qK sig p t) fun rr=>oH Tryz.prog 152 [jd sig,(ia 1 iD) p,(ia 1 iD) t] [kI rr.1,bD rr.2]:=⟨@fun rr h=>by
 delta qK at h;refine Xo.pg (gZ ?_);delta TM;refine iN ?_;exact mA⟩
def YE:ie:=
 (.seq (.h_ (sq 2 [.mv (.const (.slice none 0 0))])) (.seq (.h_ (sq 3 [.mP 3 2 1 [],mv 0,ap 5 2 1 8 3 4]++sq 2 [mv 5])) .ret))
theorem aap:kH Tryz.prog 87 YE 6 [.tmp 2]:=mf Tryz.func87 Tryz.ntmps87
def jo(l:gv):Option gv:=
 if(0+l.length)*8<=140737488355328 then
  some l
 else none
instance Qb{l:gv}:iR (jo l) fun rr=>iC Tryz.prog 87 [.d (ia 1 iD l)] [] 0 fun xx ss=>xx=.own 1 3 (List.map iD rr)/\ss=[(3,.tok 2 1 rr.length)]:=⟨@fun rr h=>by
 delta jo at h;refine aap.lO (gZ ?_);delta YE;refine iN ?_;exact mA⟩
def Tr:ie:=
 (.seq (.h_ (sq 3 [bo 3 30 0]++sq 6 [.mv (.const (.slice none 0 0))])) (.seq (.h_ (sq 7 [mv 1,mv 2,la 1 3,mv 1,mv 2,cf 118 [9,10,11],.slc (t0 7) 1 (some (t0 8)) (some (t0 12)) none,cf 87 [13]]++sq 6 [mv 14])) .ret))
theorem WV:kH Tryz.prog 120 Tr 15 [.tmp 6]:=mf Tryz.func120 Tryz.ntmps120
def qT(sig:gv)(t:gv)(at':Int):Option gv:=
 (ox sig t at').bind fun r=>
 if 0<=at'/\at'<=r/\r<=(t.length:Int)then
  (jo ((t.take r.toNat).drop at'.toNat)).bind fun r_1=>
  some r_1
 else none
instance QT{sig:gv}{t:gv}{at':Int}:iR (qT sig t at') fun rr=>jU Tryz.prog 120 [jd sig,(ia 1 iD) t,iD at'] ((ia 1 iD) rr):=⟨@fun rr h=>by
 delta qT at h;refine WV.jC (gZ ?_);delta Tr;refine iN ?_;refine rC h fun r hr h=>?_
 refine j_ h fun hp h=>?_
 refine rB [] [(3,14)] h fun r_1 hr_1 h=>?_
 exact mA⟩
def Yj:ie:=
 (.seq (.h_ (sq 4 [mb false])) (.seq (.seq (.h_ (sq 6 [mv 0,ln 6,mv 1,ln 8,bn .neq 7 9])) (.cond (t0 10) (.seq (.h_ (sq 4 [mb false])) .ret) .skip)) (.seq (.seq (.h_ (sq 5 [mi 0])) (.block 0 (.loop (.seq (.seq (.h_ (sq 11 [mv 5,mv 0,ln 12,bn .lss 11 13])) (.cond (t0 14) .skip (.exit 0))) (.seq (.block 1 (.seq (.draw (sq 17 [mv 0,mv 5,ix 1 17 18,ld 19,mv 1,mv 5,ix 1 21 22,ld 23,bn .neq 20 24]) [[],[],[0,1],[2],[],[],[4,5],[6],[3,7]]) (.cond (t0 25) (.seq (.h_ (sq 4 [mb false])) .ret) .skip))) (.h_ (sq 15 [mv 5,bi .add 15 1]++sq 5 [mv 16]))))))) (.seq (.h_ (sq 4 [mb true])) .ret))))
theorem Z4:kH Tryz.prog 51 Yj 26 [.tmp 4]:=mf Tryz.func51 Tryz.ntmps51
def pK(a:gv)(b:gv):Int->Option gR
 |i=>
  if(decide (i<(a.length:Int)))=true then
   if 0<=i/\i<(a.length:Int)then
    if 0<=i/\i<(b.length:Int)then
     if((a.getD i.toNat default) != (b.getD i.toNat default))=true then
      Option.map Sum.inr (
       some false)
     else
      some (.inl (IntKind.i64.wrap (i+1)))
    else none
   else none
  else
   Option.map Sum.inr (
    some true)
def kG(a:gv)(b:gv):Option Bool:=
 if((a.length:Int) != (b.length:Int))=true then
  some false
 else
  iw (pK a b) 0
instance MQ{a:gv}{b:gv}:iR (kG a b) fun rr=>jU Tryz.prog 51 [(ia 1 iD) a,(ia 1 iD) b] (bD rr):=⟨@fun rr h=>by
 delta kG at h;refine Z4.jC (gZ ?_);delta Yj;refine iN ?_;refine iF h fun hc h=>?_
 refine kT h [4,5,11,12,13,14,15,16,17,18,19,20,21,22,23,24,25] (fun pp=>[(5,.d (iD pp))]) (fun pp=>[]) ?_;rintro i t1 h hb1;unfold pK at h;try dsimp only at h
 refine gZ (iN ?_);exact mA⟩
def TG:ie:=
 (.seq (.h_ (sq 2 [bo 2 180 0]++sq 4 [.mv (.const (.slice none 0 0))])) (.seq (.seq (.h_ (sq 5 [mv 1,fa 0 2,ld 6,ln 7,bn .lss 5 8,mv 9]++sg 10 true 11 [fa 0 2,ld 11,mv 1,ix 1 12 13,ld 14,ln 15,bi .gtr 16 0]++sq 18 [pa 10 17])) (.cond (t0 18) (.seq (.h_ (sq 19 [fa 0 2,ld 19,mv 1,ix 1 20 21,ld 22,cf 87 [23]]++sq 4 [mv 24])) .ret) .skip)) (.seq (.h_ (sq 25 [mv 1,.bin .sub (i0 (-1)) (t0 25),.mP 27 2 1 [(t0 26)]]++sq 4 [mv 27])) .ret)))
theorem Xj:kH Tryz.prog 142 TG 28 [.tmp 4]:=mf Tryz.func142 Tryz.ntmps142
def oX(s:gx)(i:Int):Option gv:=
 if(decide (i<(s.length:Int)))=true then
  if 0<=i/\i<(s.length:Int)then
   if(decide (0<((s.getD i.toNat default).length:Int)))=true then
    if 0<=i/\i<(s.length:Int)then
     (jo (s.getD i.toNat default)).bind fun r=>
     some r
    else none
   else
    some [(IntKind.i64.wrap ((-1)-i))]
  else none
 else
  some [(IntKind.i64.wrap ((-1)-i))]
instance ND{s:gx}{i:Int}:iR (oX s i) fun rr=>jU Tryz.prog 142 [kI s,iD i] ((ia 1 iD) rr):=⟨@fun rr h=>by
 delta oX at h;refine Xj.jC (gZ ?_);delta TG;refine iN ?_;refine iT h fun hc h=>?_
 refine j_ h fun hp h=>?_
 refine iT h fun hc h=>?_
 refine j_ h fun hp h=>?_
 refine rB [] [(3,24)] h fun r hr h=>?_
 exact mA⟩
def TF:ie:=
 (.seq (.h_ (sq 1 [bo 1 180 0,.alloc 2 180 [.sl 0 (some true) []]])) (.seq (.h_ (sq 6 [.build [.sl 0 (some true) []] []]++sq 3 [.alloc 3 180 [.sl 0 (some true) []]]++s0 (sr 1 3 6))) (.seq (.seq (.h_ (sq 4 [mi 0])) (.block 0 (.loop (.seq (.seq (.h_ (sq 7 [mv 4,fa 0 1,ld 8,ln 9,bn .lss 7 10])) (.cond (t0 11) .skip (.exit 0))) (.seq (.block 1 (.seq (.h_ (sq 14 [la 1 1,mv 4,cf 142 [14,15]]++sq 5 [mv 16])) (.seq (.seq (.h_ (sq 17 [mv 5,ln 17,bi .eql 18 1,mv 19]++sg 20 true 21 [mv 5,.uE 1 (t0 21) (i0 0),ld 22,mv 4,.bin .sub (i0 (-1)) (t0 24),bn .eql 23 25]++sq 27 [pa 20 26])) (.cond (t0 27) (.h_ (sq 28 [.mP 28 2 1 []]++sq 5 [mv 28])) .skip)) (.h_ (sq 29 [fa 0 3,ld 29,mv 5,.mP 32 22 1 [(t0 31)],ap 33 22 1 24 30 32,fa 0 3]++s0 (sr 1 34 33)))))) (.h_ (sq 12 [mv 4,bi .add 12 1]++sq 4 [mv 13]))))))) (.seq (.block 2 (.loop (.seq (.seq (.h_ (sq 35 [fa 0 3,ld 35,ln 36,bi .gtr 37 0,mv 38]++sg 39 true 40 [fa 0 3,ld 40,fa 0 3,ld 42,ln 43,bi .sub 44 1,ix 1 41 45,ld 46,ln 47,bi .eql 48 0]++sq 50 [pa 39 49])) (.cond (t0 50) .skip (.exit 2))) (.block 3 (.h_ (sq 51 [fa 0 3,ld 51,fa 0 3,ld 53,ln 54,bi .sub 55 1,.slc (t0 52) 1 none (some (t0 56)) none,fa 0 3]++s0 (sr 1 58 57))))))) (.seq (.h_ (sq 59 [la 1 3]++s0 (sr 1 2 59))) .ret)))))
theorem Xi:kH Tryz.prog 141 TF 60 [.cell 2 1 true]:=mf Tryz.func141 Tryz.ntmps141
def sW:gx->Option (gx⊕gx)
 |out_1=>
  if(decide (0<(out_1.length:Int)))=true then
   if 0<=(IntKind.i64.wrap ((out_1.length:Int)-1))/\(IntKind.i64.wrap ((out_1.length:Int)-1))<(out_1.length:Int)then
    if(((out_1.getD (IntKind.i64.wrap ((out_1.length:Int)-1)).toNat default).length:Int)==0)=true then
     if 0<=(IntKind.i64.wrap ((out_1.length:Int)-1))/\(IntKind.i64.wrap ((out_1.length:Int)-1))<=(out_1.length:Int)then
      some (.inl (out_1.take (IntKind.i64.wrap ((out_1.length:Int)-1)).toNat))
     else none
    else
     Option.map Sum.inr (
      some out_1)
   else none
  else
   Option.map Sum.inr (
    some out_1)
def sV(s:gx):(Int×gx)->Option ((Int×gx)⊕gx)
 |(i,out)=>
  if(decide (i<(s.length:Int)))=true then
   (oX s i).bind fun r=>
   if((r.length:Int)==1)=true then
    if 0<=0/\0<(r.length:Int)then
     if((r.getD 0 default)==(IntKind.i64.wrap ((-1)-i)))=true then
      if(out.length+1)*24<=140737488355328 then
       some (.inl ((IntKind.i64.wrap (i+1)),(out++[[]])))
      else none
     else
      if(out.length+1)*24<=140737488355328 then
       some (.inl ((IntKind.i64.wrap (i+1)),(out++[r])))
      else none
    else none
   else
    if(out.length+1)*24<=140737488355328 then
     some (.inl ((IntKind.i64.wrap (i+1)),(out++[r])))
    else none
  else
   Option.map Sum.inr (
    iw (sW) out)
def qA(s:gx):Option gx:=
 iw (sV s) (0,[])
instance NG{s:gx}:iR (qA s) fun rr=>jU Tryz.prog 141 [kI s] (kI rr):=⟨@fun rr h=>by
 delta qA at h;refine Xi.jC (gZ ?_);delta TF;refine iN ?_;refine um h [4,5,7,8,9,10,11,12,13,14,15,16,17,18,19,20,21,22,23,24,25,26,27,28,29,30,31,32,33,34] (fun pp=>[(4,.d (iD pp.1))]) (fun pp=>[(1,.obj 180 [.d (ia 1 (ia 1 iD) s)]),(2,.obj 180 [.d (.sl 0 (some true) [])]),(3,.obj 180 [.own 1 33 (List.map (ia 1 iD) pp.2)]),(33,.tok 22 1 pp.2.length)]) ?_ ?_
 ·try dsimp only
  refine(iL.xC 3 0 33 22 1 rfl rfl rfl).trans ?_;exact wk
 rintro⟨i,out⟩ t1 h hb1;unfold sV at h;try dsimp only at h
 refine gZ (iN ?_);refine it h (fun hc h=>?_) fun hc h=>?_
 ·refine rC h fun r hr h=>?_
  refine it h (fun hc h=>?_) fun hc h=>?_
  ·refine j_ h fun hp h=>?_
   refine it h (fun hc h=>?_) fun hc h=>?_
   ·refine j_ h fun hp h=>?_
    cases h;refine⟨_,rfl,?_⟩;refine(iL.drop 28 gY).trans ?_;refine(iL.drop 32 gY).trans ?_;exact wk
   refine j_ h fun hp h=>?_
   cases h;refine⟨_,rfl,?_⟩;refine(iL.drop 32 gY).trans ?_;exact wk
  refine j_ h fun hp h=>?_
  cases h;refine⟨_,rfl,?_⟩;refine(iL.drop 32 gY).trans ?_;exact wk
 replace h:=iZ h hb1;refine um h [35,36,37,38,39,40,41,42,43,44,45,46,47,48,49,50,51,52,53,54,55,56,57,58] (fun pp=>[]) (fun pp=>[(1,.obj 180 [.d (ia 1 (ia 1 iD) s)]),(2,.obj 180 [.d (.sl 0 (some true) [])]),(3,.obj 180 [.d (ia 1 (ia 1 iD) pp)])]) ?_ ?_
 ·try dsimp only
  refine(iL.drop 33 gY).trans ?_;exact wk
 rintro out_1 t1 h hb1;unfold sW at h;try dsimp only at h
 refine gZ (iN ?_);exact mA⟩
def Tq:ie:=
 (.seq (.h_ (sq 3 [bo 3 30 0]++sq 6 [.alloc 6 180 [.sl 0 (some true) []],mb false])) (.seq (.h_ (sq 13 [.zO 13 22 1 24 [.sl 0 (some true) []] false (i0 24) (i0 24),.build [.sl 0 (some true) []] [(0,1,(t0 13))]]++sq 8 [.alloc 8 180 [.sl 0 (some true) []]]++s0 (sr 1 8 14))) (.seq (.h_ (sq 9 [mi 0])) (.seq (.seq (.h_ (sq 10 [mi 0])) (.block 0 (.loop (.seq (.seq (.h_ (sq 15 [mv 10,mv 1,ln 16,bn .lss 15 17])) (.cond (t0 18) .skip (.exit 0))) (.seq (.block 1 (.seq (.seq (.h_ (sq 21 [mv 9,mv 2,ln 22,bn .geq 21 23])) (.cond (t0 24) (.seq (.h_ (sq 25 [.build [.sl 0 (some true) []] []]++s0 (sr 1 6 25)++sq 7 [mb false])) .ret) .skip)) (.seq (.seq (.h_ (sq 26 [mv 1,mv 10,ix 1 26 27,ld 28,bi .geq 29 0])) (.cond (t0 30) (.seq (.seq (.draw (sq 31 [mv 1,mv 10,ix 1 31 32,ld 33,mv 2,mv 9,ix 1 35 36,ld 37,bn .neq 34 38]) [[],[],[0,1],[2],[],[],[4,5],[6],[3,7]]) (.cond (t0 39) (.seq (.h_ (sq 40 [.build [.sl 0 (some true) []] []]++s0 (sr 1 6 40)++sq 7 [mb false])) .ret) .skip)) (.seq (.h_ (sq 41 [mv 9,bi .add 41 1]++sq 9 [mv 42])) (.exit 1))) .skip)) (.seq (.h_ (sq 43 [la 1 3,mv 2,mv 9,cf 120 [43,44,45]]++sq 11 [mv 46])) (.seq (.draw (sq 47 [fa 0 8,ld 47,mv 1,mv 10,ix 1 49 50,ld 51,.bin .sub (i0 (-1)) (t0 52),ix 1 48 53,ld 54]++sq 12 [mv 55]) [[],[0],[],[],[2,3],[4],[5],[1,6],[7],[8,0,1,2,3,4,5,6,7,8]]) (.seq (.seq (.h_ (sq 56 [mv 12,ln 56,bi .gtr 57 0,mv 58]++sg 59 true 60 [mv 12,mv 11,cf 51 [60,61],nt 62]++sq 64 [pa 59 63])) (.cond (t0 64) (.seq (.h_ (sq 65 [.build [.sl 0 (some true) []] []]++s0 (sr 1 6 65)++sq 7 [mb false])) .ret) .skip)) (.seq (.draw (sq 66 [fa 0 8,ld 66,mv 1,mv 10,ix 1 68 69,ld 70,.bin .sub (i0 (-1)) (t0 71),mv 11,ix 1 67 72]++s0 (sr 1 74 73)) [[],[0],[],[],[2,3],[4],[5],[],[1,6,0,1,2,3,4,5,6,7],[8,7,0,1,2,3,4,5,6,7]]) (.h_ (sq 75 [mv 9,mv 11,ln 76,bn .add 75 77]++sq 9 [mv 78]))))))))) (.h_ (sq 19 [mv 10,bi .add 19 1]++sq 10 [mv 20]))))))) (.seq (.h_ (sq 79 [la 1 8,cf 141 [79]]++s0 (sr 1 6 80)++sq 7 [mb true])) .ret)))))
theorem WU:kH Tryz.prog 119 Tq 81 [.cell 6 1 true,.tmp 7]:=mf Tryz.func119 Tryz.ntmps119
def sY(sig:gv)(p:gv)(t:gv):(Int×Int×gx)->Option ((Int×Int×gx)⊕(gx×Bool))
 |(k,i,l13)=>
  if(decide (i<(p.length:Int)))=true then
   if(decide ((t.length:Int)<=k))=true then
    Option.map Sum.inr (
     some ([],false))
   else
    if 0<=i/\i<(p.length:Int)then
     if(decide (0<=(p.getD i.toNat default)))=true then
      if 0<=i/\i<(p.length:Int)then
       if 0<=k/\k<(t.length:Int)then
        if((p.getD i.toNat default) != (t.getD k.toNat default))=true then
         Option.map Sum.inr (
          some ([],false))
        else
         some (.inl ((IntKind.i64.wrap (k+1)),(IntKind.i64.wrap (i+1)),l13))
       else none
      else none
     else
      (qT sig t k).bind fun r=>
      if 0<=i/\i<(p.length:Int)then
       if 0<=(IntKind.i64.wrap ((-1)-(p.getD i.toNat default)))/\(IntKind.i64.wrap ((-1)-(p.getD i.toNat default)))<(24:Int)/\(IntKind.i64.wrap ((-1)-(p.getD i.toNat default)))<(l13.length:Int)then
        if(decide (0<((l13.getD (IntKind.i64.wrap ((-1)-(p.getD i.toNat default))).toNat default).length:Int)))=true then
         (kG (l13.getD (IntKind.i64.wrap ((-1)-(p.getD i.toNat default))).toNat default) r).bind fun r_1=>
         if r_1=true then
          if 0<=i/\i<(p.length:Int)then
           if 0<=(IntKind.i64.wrap ((-1)-(p.getD i.toNat default)))/\(IntKind.i64.wrap ((-1)-(p.getD i.toNat default)))<(24:Int)/\(IntKind.i64.wrap ((-1)-(p.getD i.toNat default)))<(l13.length:Int)then
            some (.inl ((IntKind.i64.wrap (k+(r.length:Int))),(IntKind.i64.wrap (i+1)),(l13.set (IntKind.i64.wrap ((-1)-(p.getD i.toNat default))).toNat r)))
           else none
          else none
         else
          Option.map Sum.inr (
           some ([],false))
        else
         if 0<=i/\i<(p.length:Int)then
          if 0<=(IntKind.i64.wrap ((-1)-(p.getD i.toNat default)))/\(IntKind.i64.wrap ((-1)-(p.getD i.toNat default)))<(24:Int)/\(IntKind.i64.wrap ((-1)-(p.getD i.toNat default)))<(l13.length:Int)then
           some (.inl ((IntKind.i64.wrap (k+(r.length:Int))),(IntKind.i64.wrap (i+1)),(l13.set (IntKind.i64.wrap ((-1)-(p.getD i.toNat default))).toNat r)))
          else none
         else none
       else none
      else none
    else none
  else
   Option.map Sum.inr (
    if l13.length=24 then
     (qA l13).bind fun r_2=>
     some (r_2,true)
    else none)
def qB(sig:gv)(p:gv)(t:gv):Option (gx×Bool):=
 iw (sY sig p t) (0,0,(List.replicate 24 []))
instance NH{sig:gv}{p:gv}{t:gv}:iR (qB sig p t) fun rr=>oH Tryz.prog 119 [jd sig,(ia 1 iD) p,(ia 1 iD) t] [kI rr.1,bD rr.2]:=⟨@fun rr h=>by
 delta qB at h;refine WU.pg (gZ ?_);delta Tq;refine iN ?_;refine qa ?_;refine kT h [7,9,10,11,12,15,16,17,18,19,20,21,22,23,24,25,26,27,28,29,30,31,32,33,34,35,36,37,38,39,40,41,42,43,44,45,46,47,48,49,50,51,52,53,54,55,56,57,58,59,60,61,62,63,64,65,66,67,68,69,70,71,72,73,74,75,76,77,78] (fun pp=>[(9,.d (iD pp.1)),(10,.d (iD pp.2.1))]) (fun pp=>[(3,.obj 30 [.d (ia 1 iD sig)]),(6,.obj 180 [.d (.sl 0 (some true) [])]),(8,.obj 180 [.pV 1 13 0 24]),(13,.obj 22 (List.map (aD (ia 1 iD)) pp.2.2))]) ?_;rintro⟨k,i,l13⟩ t1 h hb1;unfold sY at h;try dsimp only at h
 refine gZ (iN ?_);refine iF h fun hc h=>?_
 replace h:=iZ h hb1;refine j_ h fun hp h=>?_
 refine Ek 13 (ia 1 iD) l13 gY rfl (fun _=>rfl) (iN ?_);refine rC h fun r_2 hr_2 h=>?_
 exact mA⟩
def TY:ie:=
 (.seq (.h_ (sq 1 [bo 1 180 0,.mv (.const .nilFunc)])) (.seq (.h_ (sq 3 [.A2 166 [] [(t0 1)]]++sq 2 [mv 3])) .ret))
theorem XC:kH Tryz.prog 163 TY 4 [.tmp 2]:=mf Tryz.func163 Tryz.ntmps163
def oJ(s:gx):Option gx:=
 some s
instance HR{s:gx}:iR (oJ s) fun rr=>iC Tryz.prog 163 [.d (.agg [ia 1 (ia 1 iD) s])] [] 0 fun xx ss=>xx=.fn 166 [] [.ptr 1 0]/\ss=[(1,.obj 180 [.d (ia 1 (ia 1 iD) rr)])]:=⟨@fun rr h=>by
 delta oJ at h;refine XC.lO (gZ ?_);delta TY;refine iN ?_;exact mA⟩
def T2:ie:=
 (.seq (.h_ (sq 2 [bo 2 180 0]++sq 4 [.mv (.const (.slice none 0 0))])) (.seq (.seq (.h_ (sq 5 [mv 1,fa 0 2,ld 6,ln 7,bn .geq 5 8,mv 9]++sg 10 false 11 [fa 0 2,ld 11,mv 1,ix 1 12 13,ld 14,ln 15,bi .eql 16 0]++sq 18 [po 10 17])) (.cond (t0 18) (.seq (.h_ (sq 4 [.mv (.const (.slice none 0 0))])) .ret) .skip)) (.seq (.h_ (sq 19 [fa 0 2,ld 19,mv 1,ix 1 20 21,ld 22]++sq 4 [mv 23])) .ret)))
theorem XH:kH Tryz.prog 167 T2 24 [.tmp 4]:=mf Tryz.func167 Tryz.ntmps167
def nu(s:gx)(i:Int):Option gv:=
 if(decide ((s.length:Int)<=i))=true then
  some []
 else
  if 0<=i/\i<(s.length:Int)then
   if(((s.getD i.toNat default).length:Int)==0)=true then
    some []
   else
    if 0<=i/\i<(s.length:Int)then
     if 0<(s.getD i.toNat default).length then
      some (s.getD i.toNat default)
     else none
    else none
  else none
instance Ih{s:gx}{i:Int}:iR (nu s i) fun rr=>jU Tryz.prog 167 [kI s,iD i] ((oI 1 iD) rr):=⟨@fun rr h=>by
 delta nu at h;refine XH.jC (gZ ?_);delta T2;refine iN ?_;refine iF h fun hc h=>?_
 refine j_ h fun hp h=>?_
 refine iF h fun hc h=>?_
 refine j_ h fun hp h=>?_
 refine j_ h fun hp h=>?_
 cases h;exact(zC gY).2 trivial⟩
def T1:ie:=
 (.seq (.h_ (sq 3 [.mv (.const (.slice none 0 0))])) (.seq (.seq (.h_ (sq 4 [mv 0,bi .geq 4 0])) (.cond (t0 5) (.seq (.h_ (sq 3 [.mv (.const (.slice none 0 0))])) .ret) .skip)) (.seq (.h_ (sq 6 [la 1 1,mv 0,.bin .sub (i0 (-1)) (t0 7),cf 167 [6,8]]++sq 3 [mv 9])) .ret)))
theorem XG:kH Tryz.prog 166 T1 10 [.tmp 3]:=mf Tryz.func166 Tryz.ntmps166
def nL(n:Int)(o0:gx):Option gv:=
 if(decide (0<=n))=true then
  some []
 else
  (nu o0 (IntKind.i64.wrap ((-1)-n))).bind fun r=>
  some r
instance F6{n:Int}{o0:gx}:iR (nL n o0) fun rr=>iC Tryz.prog 166 [.d (iD n),.ptr 0 0] [(0,.obj 180 [.d (ia 1 (ia 1 iD) o0)])] 1 fun xx ss=>xx=.d (oI 1 iD rr)/\ss=[(0,.obj 180 [.d (ia 1 (ia 1 iD) o0)])]:=⟨@fun rr h=>by
 delta nL at h;refine XG.lO (gZ ?_);delta T1;refine iN ?_;exact mA⟩
def TN:ie:=
 (.seq (.h_ (sq 2 [bo 2 180 0]++sq 4 [.mv (.const (.slice none 0 0)),mb false])) (.seq (.h_ (sq 11 [la 1 2,cf 163 [11]]++sq 6 [mv 12])) (.seq (.h_ (sq 13 [mv 1,ln 13,.zO 15 2 1 8 [.lit (.int .i64 0)] true (i0 0) (t0 14)]++sq 7 [mv 15])) (.seq (.seq (.h_ (sq 16 [mv 1,ln 16,mi 0])) (.block 0 (.loop (.seq (.h_ (sq 19 [bn .lss 18 17])) (.seq (.cond (t0 19) .skip (.exit 0)) (.seq (.block 1 (.seq (.h_ (sq 20 [ix 1 16 18,ld 20]++sq 9 [mv 21])) (.seq (.seq (.h_ (sq 22 [mv 6,mv 9,.ng (t0 22) [(t0 23)]]++sq 10 [mv 24])) (.seq (.h_ (sq 25 [mv 10,.uT false (t0 25)])) (.cond (t0 26) (.h_ (sq 27 [mv 7,mv 9,.mP 29 2 1 [(t0 28)],ap 30 2 1 8 27 29]++sq 7 [mv 30])) (.h_ (sq 31 [mv 7,mv 10,ap 33 2 1 8 31 32]++sq 7 [mv 33]))))) (.seq (.h_ (sq 34 [mv 7,ln 34,bi .gtr 35 60])) (.cond (t0 36) (.seq (.h_ (sq 4 [.mv (.const (.slice none 0 0)),mb false])) .ret) .skip))))) (.h_ (sq 37 [bi .add 18 1]++sq 18 [mv 37])))))))) (.seq (.h_ (sq 38 [mv 7]++sq 4 [mv 38,mb true])) .ret)))))
theorem Xq:kH Tryz.prog 153 TN 39 [.tmp 4,.tmp 5]:=mf Tryz.func153 Tryz.ntmps153
def vt(t:gv)(r:gx):gH->Option (gH⊕gW)
 |(out,v18)=>
  if(decide (v18<(t.length:Int)))=true then
   if 0<=v18/\v18<(t.length:Int)then
    (nL (t.getD v18.toNat default) r).bind fun r_1=>
    if r_1.isEmpty=true then
     if(out.length+1)*8<=140737488355328 then
      if(decide (60<((out++[(t.getD v18.toNat default)]).length:Int)))=true then
       Option.map Sum.inr (
        some ([],false))
      else
       some (.inl ((out++[(t.getD v18.toNat default)]),(IntKind.i64.wrap (v18+1))))
     else none
    else
     if(out.length+r_1.length)*8<=140737488355328 then
      if(decide (60<((out++r_1).length:Int)))=true then
       Option.map Sum.inr (
        some ([],false))
      else
       some (.inl ((out++r_1),(IntKind.i64.wrap (v18+1))))
     else none
   else none
  else
   Option.map Sum.inr (
    some (out,true))
def sx(s:gx)(t:gv):Option gW:=
 (oJ s).bind fun r=>
 if 0<=(t.length:Int)/\8*(t.length:Int)<=281474976710656 then
  iw (vt t r) ([],0)
 else none
instance SR{s:gx}{t:gv}:iR (sx s t) fun rr=>oH Tryz.prog 153 [kI s,(ia 1 iD) t] [(ia 1 iD) rr.1,bD rr.2]:=⟨@fun rr h=>by
 delta sx at h;refine Xq.pg (gZ ?_);delta TN;refine iN ?_;refine rB [] [(1,12)] h fun r hr h=>?_
 refine j_ h fun hp h=>?_
 refine kT h [4,5,7,9,10,18,19,20,21,22,23,24,25,26,27,28,29,30,31,32,33,34,35,36,37] (fun pp=>[(7,.own 1 15 (List.map iD pp.1)),(18,.d (iD pp.2))]) (fun pp=>[(2,.obj 180 [.d (ia 1 (ia 1 iD) s)]),(12,.obj 180 [.d (ia 1 (ia 1 iD) r)]),(15,.tok 2 1 pp.1.length)]) ?_;rintro⟨out,v18⟩ t1 h hb1;unfold vt at h;try dsimp only at h
 refine gZ (iN ?_);refine iT h fun hc h=>?_
 refine j_ h fun hp h=>?_
 refine yW (by kernel_rfl) ?_;refine rB [(0,12)] [] h fun r_1 hr_1 h=>?_
 refine iT h fun hc h=>?_
 refine j_ h fun hp h=>?_
 refine iF h fun hc h=>?_
 cases h;refine⟨_,rfl,?_⟩;refine(iL.drop 29 gY).trans ?_;exact wk⟩
def Ts:ie:=
 (.seq (.h_ (sq 2 [bo 2 180 0]++sq 4 [.mv (.const (.slice none 0 0)),mb false])) (.seq (.h_ (sq 8 [.mP 8 2 1 []]++sq 6 [mv 8])) (.seq (.seq (.h_ (sq 7 [mi 0])) (.block 0 (.loop (.seq (.seq (.h_ (sq 9 [mv 7,mv 1,ln 10,bn .lss 9 11])) (.cond (t0 12) .skip (.exit 0))) (.seq (.block 1 (.seq (.seq (.h_ (sq 15 [mv 1,mv 7,ix 1 15 16,ld 17,bi .lss 18 0])) (.cond (t0 19) (.draw (sq 20 [mv 6,la 1 2,mv 1,mv 7,ix 1 22 23,ld 24,.bin .sub (i0 (-1)) (t0 25),cf 142 [21,26],ap 28 2 1 8 20 27]++sq 6 [mv 28]) [[],[],[],[],[2,3],[4],[5],[1,6],[0,7,7],[8,8,0,1,2,3,4,5,6,7,8]]) (.h_ (sq 29 [mv 6,mv 1,mv 7,ix 1 30 31,ld 32,.mP 34 2 1 [(t0 33)],ap 35 2 1 8 29 34]++sq 6 [mv 35])))) (.seq (.h_ (sq 36 [mv 6,ln 36,bi .gtr 37 60])) (.cond (t0 38) (.seq (.h_ (sq 39 [.mP 39 2 1 []]++sq 4 [mv 39,mb false])) .ret) .skip)))) (.h_ (sq 13 [mv 7,bi .add 13 1]++sq 7 [mv 14]))))))) (.seq (.h_ (sq 40 [mv 6]++sq 4 [mv 40,mb true])) .ret))))
theorem WW:kH Tryz.prog 121 Ts 41 [.tmp 4,.tmp 5]:=mf Tryz.func121 Tryz.ntmps121
def si(s:gx)(t:gv):gH->Option (gH⊕gW)
 |(out,i)=>
  if(decide (i<(t.length:Int)))=true then
   if 0<=i/\i<(t.length:Int)then
    if(decide ((t.getD i.toNat default)<0))=true then
     if 0<=i/\i<(t.length:Int)then
      (oX s (IntKind.i64.wrap ((-1)-(t.getD i.toNat default)))).bind fun r=>
      if(out.length+r.length)*8<=140737488355328 then
       if(decide (60<((out++r).length:Int)))=true then
        Option.map Sum.inr (
         some ([],false))
       else
        some (.inl ((out++r),(IntKind.i64.wrap (i+1))))
      else none
     else none
    else
     if 0<=i/\i<(t.length:Int)then
      if(out.length+1)*8<=140737488355328 then
       if(decide (60<((out++[(t.getD i.toNat default)]).length:Int)))=true then
        Option.map Sum.inr (
         some ([],false))
       else
        some (.inl ((out++[(t.getD i.toNat default)]),(IntKind.i64.wrap (i+1))))
      else none
     else none
   else none
  else
   Option.map Sum.inr (
    some (out,true))
def oc(s:gx)(t:gv):Option gW:=
 iw (si s t) ([],0)
instance MU{s:gx}{t:gv}:iR (oc s t) fun rr=>oH Tryz.prog 121 [kI s,(ia 1 iD) t] [(ia 1 iD) rr.1,bD rr.2]:=⟨@fun rr h=>by
 delta oc at h;refine WW.pg (gZ ?_);delta Ts;refine iN ?_;refine kT h [4,5,6,7,9,10,11,12,13,14,15,16,17,18,19,20,21,22,23,24,25,26,27,28,29,30,31,32,33,34,35,36,37,38,39] (fun pp=>[(6,.own 1 8 (List.map iD pp.1)),(7,.d (iD pp.2))]) (fun pp=>[(2,.obj 180 [.d (ia 1 (ia 1 iD) s)]),(8,.tok 2 1 pp.1.length)]) ?_;rintro⟨out,i⟩ t1 h hb1;unfold si at h;try dsimp only at h
 refine gZ (iN ?_);refine iT h fun hc h=>?_
 refine j_ h fun hp h=>?_
 refine iF h fun hc h=>?_
 refine j_ h fun hp h=>?_
 refine j_ h fun hp h=>?_
 refine iF h fun hc h=>?_
 cases h;refine⟨_,rfl,?_⟩;refine(iL.drop 34 gY).trans ?_;exact wk⟩
end Go.Proofs.YtjgbnaihpicpgaaGreatDoor
