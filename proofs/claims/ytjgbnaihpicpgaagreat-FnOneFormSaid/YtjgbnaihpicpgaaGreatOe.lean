/- A part of the proof about FnOneForm (G2). -/
import Derived.Test.YtjgbnaihpicpgaaGreatOd
set_option linter.all false
noncomputable section
namespace Go.Proofs.YtjgbnaihpicpgaaGreat
open Go ng
attribute [local irreducible] uh wo vz mL mC ot kQ Be Cb zM Ca zD uj mu og BY iY lg
set_option maxHeartbeats 4000000
set_option maxRecDepth 4000
def kJ(x:gE):D:=.agg [(iq 1 (iq 1 iD)) x]
instance:xd kJ 1:=⟨fun _=>rfl⟩
attribute [go_sem] kJ
def Yo:ir:=
 (.seq (.ie (sq 3 [bo 3 29 0]++sq 6 [.mv (.const (.slice none 0 0))])) (.seq (.ie (sq 7 [mv 1,mv 2,la 1 3,mv 1,mv 2,cf 158 [9,10,11],.slc (t0 7) 1 (some (t0 8)) (some (t0 12)) none]++sq 6 [mv 13])) .ret))
theorem ZS:kS Tryz.prog 95 Yo 14 [.tmp 6]:=mf Tryz.func95 Tryz.ntmps95
def jX(sig:gB)(t:gB)(iS:Int):Option gB:=
 (lY sig t iS).bind fun r=>
 if 0<=iS/\iS<=r/\r<=(t.length:Int)then
  some ((t.take r.toNat).drop iS.toNat)
 else none
instance Qv{sig:gB}{t:gB}{iS:Int}:iU (jX sig t iS) fun rr=>jW Tryz.prog 95 [jy sig,(iq 1 iD) t,iD iS] ((iq 1 iD) rr):=⟨@fun rr h=>by
 delta jX at h;refine ZS.jz (ia ?_);delta Yo;refine iR ?_;exact lP⟩
def Yl:ir:=
 (.seq (.ie (sq 4 [mb false])) (.seq (.seq (.ie (sq 6 [mv 0,ln 6,mv 1,ln 8,bn .neq 7 9])) (.cond (t0 10) (.seq (.ie (sq 4 [mb false])) .ret) .skip)) (.seq (.seq (.ie (sq 11 [mv 0,ln 11,mi 0])) (.block 0 (.loop (.seq (.ie (sq 14 [bn .lss 13 12])) (.seq (.cond (t0 14) .skip (.exit 0)) (.seq (.block 1 (.seq (.ie (sq 15 [mv 13]++sq 5 [mv 15])) (.seq (.draw (sq 16 [mv 0,mv 5,ix 1 16 17,ld 18,mv 1,mv 5,ix 1 20 21,ld 22,bn .neq 19 23]) [[],[],[0,1],[2],[],[],[4,5],[6],[3,7]]) (.cond (t0 24) (.seq (.ie (sq 4 [mb false])) .ret) .skip)))) (.ie (sq 25 [bi .add 13 1]++sq 13 [mv 25])))))))) (.seq (.ie (sq 4 [mb true])) .ret))))
theorem ZP:kS Tryz.prog 92 Yl 26 [.tmp 4]:=mf Tryz.func92 Tryz.ntmps92
def kR(s1:gB)(s2:gB):Int->Option gO
 |v13=>
  if(decide (v13<(s1.length:Int)))=true then
   if 0<=v13/\v13<(s1.length:Int)then
    if 0<=v13/\v13<(s2.length:Int)then
     if((s1.getD v13.toNat default) != (s2.getD v13.toNat default))=true then
      Option.map Sum.inr (
       some false)
     else
      some (.inl (IntKind.i64.wrap (v13+1)))
    else none
   else none
  else
   Option.map Sum.inr (
    some true)
def iX(s1:gB)(s2:gB):Option Bool:=
 if((s1.length:Int) != (s2.length:Int))=true then
  some false
 else
  iB (kR s1 s2) 0
instance CX{s1:gB}{s2:gB}:iU (iX s1 s2) fun rr=>jW Tryz.prog 92 [(iq 1 iD) s1,(iq 1 iD) s2] (bD rr):=⟨@fun rr h=>by
 delta iX at h;refine ZP.jz (ia ?_);delta Yl;refine iR ?_;refine iF h fun hc h=>?_
 refine kA h [4,5,13,14,15,16,17,18,19,20,21,22,23,24,25] (fun pp=>[(13,.d (iD pp))]) (fun pp=>[]) ?_;rintro v13 t1 h hb1;unfold kR at h;try dsimp only at h
 refine ia (iR ?_);exact lP⟩
def S8:ir:=
 (.seq (.ie (sq 4 [bo 4 29 0]++sq 7 [bo 7 165 3,.alloc 8 165 [.sl 0 (some true) [],.sl 0 (some true) [],.sl 0 (some true) [],.sl 0 (some true) [],.sl 0 (some true) [],.sl 0 (some true) [],.sl 0 (some true) [],.sl 0 (some true) [],.sl 0 (some true) [],.sl 0 (some true) [],.sl 0 (some true) [],.sl 0 (some true) [],.sl 0 (some true) [],.sl 0 (some true) [],.sl 0 (some true) [],.sl 0 (some true) [],.sl 0 (some true) [],.sl 0 (some true) [],.sl 0 (some true) [],.sl 0 (some true) [],.sl 0 (some true) [],.sl 0 (some true) [],.sl 0 (some true) [],.sl 0 (some true) []],mb false])) (.seq (.ie (sq 10 [mi 0])) (.seq (.seq (.ie (sq 14 [mv 1,ln 14,mi 0])) (.block 0 (.loop (.seq (.ie (sq 17 [bn .lss 16 15])) (.seq (.cond (t0 17) .skip (.exit 0)) (.seq (.block 1 (.seq (.ie (sq 18 [ix 1 14 16,ld 18]++sq 12 [mv 19])) (.seq (.seq (.ie (sq 20 [mv 10,mv 2,ln 21,bn .geq 20 22])) (.cond (t0 23) (.seq (.ie (sq 24 [la 24 7]++s0 (sr 24 8 24)++sq 9 [mb false])) .ret) .skip)) (.seq (.seq (.ie (sq 25 [mv 12,bi .geq 25 0])) (.cond (t0 26) (.seq (.seq (.ie (sq 27 [mv 2,mv 10,ix 1 27 28,ld 29,mv 12,bn .neq 30 31])) (.cond (t0 32) (.seq (.ie (sq 33 [la 24 7]++s0 (sr 24 8 33)++sq 9 [mb false])) .ret) .skip)) (.seq (.ie (sq 34 [mv 10,bi .add 34 1]++sq 10 [mv 35])) (.exit 1))) .skip)) (.seq (.ie (sq 36 [la 1 4,mv 2,mv 10,cf 95 [36,37,38]]++sq 13 [mv 39])) (.seq (.seq (.ie (sq 40 [mv 12,.bin .sub (i0 (-1)) (t0 40),.xu 1 24 (t0 7) (t0 41),ld 42,.uK false (t0 43)])) (.cond (t0 44) (.ie (sq 45 [mv 12,.bin .sub (i0 (-1)) (t0 45),mv 13,.xu 1 24 (t0 7) (t0 46)]++s0 (sr 1 48 47))) (.seq (.ie (sq 49 [mv 12,.bin .sub (i0 (-1)) (t0 49),.xu 1 24 (t0 7) (t0 50),ld 51,mv 13,cf 92 [52,53],nt 54])) (.cond (t0 55) (.seq (.ie (sq 56 [la 24 7]++s0 (sr 24 8 56)++sq 9 [mb false])) .ret) .skip)))) (.ie (sq 57 [mv 10,mv 13,ln 58,bn .add 57 59]++sq 10 [mv 60])))))))) (.ie (sq 61 [bi .add 16 1]++sq 16 [mv 61])))))))) (.seq (.ie (sq 62 [la 24 7]++s0 (sr 24 8 62)++sq 9 [mb true])) .ret))))
theorem WC:kS Tryz.prog 124 S8 63 [.cell 8 24 true,.tmp 9]:=mf Tryz.func124 Tryz.ntmps124
def qZ(sig:gB)(p:gB)(t:gB):(Int×Int×gE)->Option ((Int×Int×gE)⊕(gE×Bool))
 |(iS,v16,b_1)=>
  if(decide (v16<(p.length:Int)))=true then
   if 0<=v16/\v16<(p.length:Int)then
    if(decide ((t.length:Int)<=iS))=true then
     if b_1.length=24 then
      if b_1.length=24 then
       Option.map Sum.inr (
        some (b_1,false))
      else none
     else none
    else
     if(decide (0<=(p.getD v16.toNat default)))=true then
      if 0<=iS/\iS<(t.length:Int)then
       if((t.getD iS.toNat default) != (p.getD v16.toNat default))=true then
        if b_1.length=24 then
         if b_1.length=24 then
          Option.map Sum.inr (
           some (b_1,false))
         else none
        else none
       else
        some (.inl ((IntKind.i64.wrap (iS+1)),(IntKind.i64.wrap (v16+1)),b_1))
      else none
     else
      (jX sig t iS).bind fun r=>
      if 0<=(IntKind.i64.wrap ((-1)-(p.getD v16.toNat default)))/\(IntKind.i64.wrap ((-1)-(p.getD v16.toNat default)))<24/\(IntKind.i64.wrap ((-1)-(p.getD v16.toNat default)))<(b_1.length:Int)then
       if(b_1.getD (IntKind.i64.wrap ((-1)-(p.getD v16.toNat default))).toNat default).isEmpty=true then
        if 0<=(IntKind.i64.wrap ((-1)-(p.getD v16.toNat default)))/\(IntKind.i64.wrap ((-1)-(p.getD v16.toNat default)))<24/\(IntKind.i64.wrap ((-1)-(p.getD v16.toNat default)))<(b_1.length:Int)then
         if 0<r.length then
          some (.inl ((IntKind.i64.wrap (iS+(r.length:Int))),(IntKind.i64.wrap (v16+1)),(b_1.set (IntKind.i64.wrap ((-1)-(p.getD v16.toNat default))).toNat r)))
         else none
        else none
       else
        if 0<=(IntKind.i64.wrap ((-1)-(p.getD v16.toNat default)))/\(IntKind.i64.wrap ((-1)-(p.getD v16.toNat default)))<24/\(IntKind.i64.wrap ((-1)-(p.getD v16.toNat default)))<(b_1.length:Int)then
         (iX (b_1.getD (IntKind.i64.wrap ((-1)-(p.getD v16.toNat default))).toNat default) r).bind fun r_1=>
         if r_1=true then
          some (.inl ((IntKind.i64.wrap (iS+(r.length:Int))),(IntKind.i64.wrap (v16+1)),b_1))
         else
          if b_1.length=24 then
           if b_1.length=24 then
            Option.map Sum.inr (
             some (b_1,false))
           else none
          else none
        else none
      else none
   else none
  else
   Option.map Sum.inr (
    if b_1.length=24 then
     if b_1.length=24 then
      some (b_1,true)
     else none
    else none)
def oE(sig:gB)(p:gB)(t:gB)(b:gE):Option (gE×Bool):=
 iB (qZ sig p t) (0,0,b)
instance KY{sig:gB}{p:gB}{t:gB}{b:gE}:iU (oE sig p t b) fun rr=>qV Tryz.prog 124 [jy sig,(iq 1 iD) p,(iq 1 iD) t,(YW (oz 1 iD)) b] [(YW (oz 1 iD)) rr.1,bD rr.2]:=⟨@fun rr h=>by
 delta oE at h;refine WC.r_ (ia ?_);delta S8;refine iR ?_;refine kA h [9,10,12,13,16,17,18,19,20,21,22,23,24,25,26,27,28,29,30,31,32,33,34,35,36,37,38,39,40,41,42,43,44,45,46,47,48,49,50,51,52,53,54,55,56,57,58,59,60,61] (fun pp=>[(10,.d (iD pp.1)),(16,.d (iD pp.2.1))]) (fun pp=>[(4,.obj 29 [.d (iq 1 iD sig)]),(7,.obj 165 (List.map (aD (oz 1 iD)) pp.2.2)),(8,.obj 165 [.d (.sl 0 (some true) []),.d (.sl 0 (some true) []),.d (.sl 0 (some true) []),.d (.sl 0 (some true) []),.d (.sl 0 (some true) []),.d (.sl 0 (some true) []),.d (.sl 0 (some true) []),.d (.sl 0 (some true) []),.d (.sl 0 (some true) []),.d (.sl 0 (some true) []),.d (.sl 0 (some true) []),.d (.sl 0 (some true) []),.d (.sl 0 (some true) []),.d (.sl 0 (some true) []),.d (.sl 0 (some true) []),.d (.sl 0 (some true) []),.d (.sl 0 (some true) []),.d (.sl 0 (some true) []),.d (.sl 0 (some true) []),.d (.sl 0 (some true) []),.d (.sl 0 (some true) []),.d (.sl 0 (some true) []),.d (.sl 0 (some true) []),.d (.sl 0 (some true) [])])]) ?_;rintro⟨iS,v16,b_1⟩ t1 h hb1;unfold qZ at h;try dsimp only at h
 refine ia (iR ?_);refine iT h fun hc h=>?_
 refine kz h fun hp h=>?_
 refine iF h fun hc h=>?_
 refine iF h fun hc h=>?_
 refine rC h fun r hr h=>?_
 refine kz h fun hp h=>?_
 refine iT h fun hc h=>?_
 refine kz h fun hp h=>?_
 refine kz h fun hp h=>?_
 cases h;refine⟨_,rfl,?_⟩;refine(iV.V0 (s':=[(4,.obj 29 [.d (iq 1 iD sig)]),(7,.obj 165 (List.map (aD (oz 1 iD)) (b_1.set (IntKind.i64.wrap ((-1)-(p.getD v16.toNat default))).toNat r))),(8,.obj 165 [.d (.sl 0 (some true) []),.d (.sl 0 (some true) []),.d (.sl 0 (some true) []),.d (.sl 0 (some true) []),.d (.sl 0 (some true) []),.d (.sl 0 (some true) []),.d (.sl 0 (some true) []),.d (.sl 0 (some true) []),.d (.sl 0 (some true) []),.d (.sl 0 (some true) []),.d (.sl 0 (some true) []),.d (.sl 0 (some true) []),.d (.sl 0 (some true) []),.d (.sl 0 (some true) []),.d (.sl 0 (some true) []),.d (.sl 0 (some true) []),.d (.sl 0 (some true) []),.d (.sl 0 (some true) []),.d (.sl 0 (some true) []),.d (.sl 0 (some true) []),.d (.sl 0 (some true) []),.d (.sl 0 (some true) []),.d (.sl 0 (some true) []),.d (.sl 0 (some true) [])])]) (iY.refl _) (by exact(zB (zo.refl _) (zB ⟨rfl,GO h_ (by first|exact(zf h_).2 trivial|exact(vj h_).2 trivial)⟩ (zB (zo.refl _) Cn))))).trans ?_;exact wk⟩
def S_:ir:=
 (.seq (.ie (sq 1 [bo 1 165 0,.alloc 2 171 [.sl 0 (some true) []]])) (.seq (.ie (sq 3 [.Fz (t0 1) 1 24 none none none,.build [.sl 0 (some true) []] [(0,1,(t0 3))]]++s0 (sr 1 2 4))) .ret))
theorem WE:kS Tryz.prog 126 S_ 5 [.cell 2 1 true]:=mf Tryz.func126 Tryz.ntmps126
def nJ(b:gE):Option gE:=
 if b.length=24 then
  some b
 else none
instance FN{b:gE}:iU (nJ b) fun rr=>jW Tryz.prog 126 [(YW (oz 1 iD)) b] (kJ rr):=⟨@fun rr h=>by
 delta nJ at h;refine WE.T6 (ia ?_);delta S_;refine iR ?_;refine kz h fun hp h=>?_
 cases h;exact⟨_,_,(jA.ZY 1 (oz 1 iD) b h_ rfl),Ee⟩⟩
def TR:ir:=
 (.seq (.ie (sq 2 [.mv (.const (.slice none 0 0))])) (.seq (.ie (sq 3 [mv 0,.bin .sub (i0 (-1)) (t0 3),.mD 5 2 1 [(t0 4)]]++sq 2 [mv 5])) .ret))
theorem Xu:kS Tryz.prog 223 TR 6 [.tmp 2]:=mf Tryz.func223 Tryz.ntmps223
def rP(i:Int):Option gB:=
 some [(IntKind.i64.wrap ((-1)-i))]
instance Mo{i:Int}:iU (rP i) fun rr=>jW Tryz.prog 223 [iD i] ((iq 1 iD) rr):=⟨@fun rr h=>by
 delta rP at h;refine Xu.jz (ia ?_);delta TR;refine iR ?_;exact lP⟩
def Te:ir:=
 (.seq (.ie (sq 2 [.mv (.const (.slice none 0 0))])) (.seq (.seq (.ie (sq 3 [mv 0,.uK false (t0 3)])) (.cond (t0 4) (.seq (.ie (sq 2 [.mv (.const (.slice none 0 0))])) .ret) .skip)) (.seq (.ie (sq 5 [.mD 5 2 1 [],mv 0,ap 7 2 1 8 5 6]++sq 2 [mv 7])) .ret)))
theorem WK:kS Tryz.prog 133 Te 8 [.tmp 2]:=mf Tryz.func133 Tryz.ntmps133
def kH(s:gB):Option gB:=
 KQ s (
  some []) (
  if(0+s.length)*8<=140737488355328 then
   some s
  else none)
instance CW{s:gB}:iU (kH s) fun rr=>jW Tryz.prog 133 [(iq 1 iD) s] ((iq 1 iD) rr):=⟨@fun rr h=>by
 delta kH at h;refine WK.jz (ia ?_);delta Te;refine iR ?_;have h1:=F1 h;refine uj.of (fun he=>?_) ?_
 ·replace h:=h1.1 (by simpa using he);clear h1;refine iR ?_;exact lP
 ·replace h:=h1.2;clear h1;refine iR ?_;exact lP⟩
def TE:ir:=
 (.seq (.ie (sq 1 [bo 1 171 0,.alloc 2 171 [.sl 0 (some true) []]])) (.seq (.ie (sq 3 [.alloc 3 171 [.sl 0 (some true) []]])) (.seq (.seq (.ie (sq 6 [fa 0 1,ld 6,ln 7,mi 0])) (.block 0 (.loop (.seq (.ie (sq 10 [bn .lss 9 8])) (.seq (.cond (t0 10) .skip (.exit 0)) (.seq (.block 1 (.seq (.ie (sq 11 [mv 9,ix 1 7 9,ld 12]++sq 4 [mv 11,mv 13])) (.seq (.seq (.ie (sq 14 [mv 5,ln 14,bi .eql 15 0,mv 16]++sg 17 false 18 [mv 5,mv 4,cf 223 [19],cf 92 [18,20]]++sq 22 [po 17 21])) (.cond (t0 22) (.exit 1) .skip)) (.seq (.block 2 (.loop (.seq (.seq (.ie (sq 23 [fa 0 3,ld 23,ln 24,mv 4,bn .lss 25 26])) (.cond (t0 27) .skip (.exit 2))) (.block 3 (.ie (sq 28 [fa 0 3,ld 28,.mD 30 27 1 [(.const (.slice none 0 0))],ap 31 27 1 24 29 30,fa 0 3]++s0 (sr 1 32 31))))))) (.draw (sq 33 [fa 0 3,ld 33,mv 5,cf 133 [35],.mD 37 27 1 [(t0 36)],ap 38 27 1 24 34 37,fa 0 3]++s0 (sr 1 39 38)) [[],[0],[],[2],[3],[1,4,3],[0,1,2,3,4,5],[6,5,5,0,1,2,3,4,5]]))))) (.ie (sq 40 [bi .add 9 1]++sq 9 [mv 40])))))))) (.seq (.ie (sq 41 [la 1 3]++s0 (sr 1 2 41))) .ret))))
theorem Xh:kS Tryz.prog 199 TE 42 [.cell 2 1 true]:=mf Tryz.func199 Tryz.ntmps199
def uu(s:gE)(v9:Int):gE->Option (gE⊕((Int×gE)⊕gE))
 |out_1=>
  if(decide ((out_1.length:Int)<v9))=true then
   if(out_1.length+1)*24<=140737488355328 then
    some (.inl (out_1++[[]]))
   else none
  else
   Option.map Sum.inr (
    (kH (s.getD v9.toNat default)).bind fun r_2=>
    if(out_1.length+1)*24<=140737488355328 then
     some (.inl ((IntKind.i64.wrap (v9+1)),(out_1++[r_2])))
    else none)
def ur(s:gE):(Int×gE)->Option ((Int×gE)⊕gE)
 |(v9,out)=>
  if(decide (v9<(s.length:Int)))=true then
   if 0<=v9/\v9<(s.length:Int)then
    if(((s.getD v9.toNat default).length:Int)==0)=true then
     some (.inl ((IntKind.i64.wrap (v9+1)),out))
    else
     (rP v9).bind fun r=>
     (iX (s.getD v9.toNat default) r).bind fun r_1=>
     if r_1=true then
      some (.inl ((IntKind.i64.wrap (v9+1)),out))
     else
      iB (uu s v9) out
   else none
  else
   Option.map Sum.inr (
    some out)
def sL(s:gE):Option gE:=
 iB (ur s) (0,[])
instance Qt{s:gE}:iU (sL s) fun rr=>jW Tryz.prog 199 [kJ s] (kJ rr):=⟨@fun rr h=>by
 delta sL at h;refine Xh.jz (ia ?_);delta TE;refine iR ?_;refine xA h [4,5,9,10,11,12,13,14,15,16,17,18,19,20,21,22,23,24,25,26,27,28,29,30,31,32,33,34,35,36,37,38,39,40] (fun pp=>[(9,.d (iD pp.1))]) (fun pp=>[(1,.obj 171 [.d (iq 1 (iq 1 iD) s)]),(2,.obj 171 [.d (.sl 0 (some true) [])]),(3,.obj 171 [.own 1 38 (List.map (iq 1 iD) pp.2)]),(38,.tok 27 1 pp.2.length)]) ?_ ?_
 ·try dsimp only
  refine(iV.A8 3 0 38 27 1 rfl rfl rfl).trans ?_;exact wk
 rintro⟨v9,out⟩ t1 h hb1;unfold ur at h;try dsimp only at h
 refine ia (iR ?_);refine iT h fun hc h=>?_
 refine kz h fun hp h=>?_
 refine iF h fun hc h=>?_
 refine rC h fun r hr h=>?_
 refine rC h fun r_1 hr_1 h=>?_
 refine iF h fun hc h=>?_
 refine kA h [23,24,25,26,27,28,29,30,31,32] (fun pp=>[]) (fun pp=>[(1,.obj 171 [.d (iq 1 (iq 1 iD) s)]),(2,.obj 171 [.d (.sl 0 (some true) [])]),(3,.obj 171 [.own 1 38 (List.map (iq 1 iD) pp)]),(38,.tok 27 1 pp.length)]) ?_;rintro out_1 t2 h hb2;unfold uu at h;try dsimp only at h
 refine ia (iR ?_);refine it h (fun hc h=>?_) fun hc h=>?_
 ·refine kz h fun hp h=>?_
  cases h;refine⟨_,rfl,?_⟩;refine(iV.drop 30 h_).trans ?_;exact wk
 replace h:=jf h hb2;refine dC h fun r_2 hr_2 h=>?_
 refine kz h fun hp h=>?_
 refine jM (by kernel_rfl) (iR ?_);cases h;refine⟨_,rfl,?_⟩;refine(iV.drop 37 h_).trans ?_;exact wk⟩
def Tj:ir:=
 (.seq (.ie (sq 3 [bo 3 29 0]++sq 6 [.alloc 6 171 [.sl 0 (some true) []],mb false])) (.seq (.ie (sq 11 [la 1 3,mv 1,mv 2,.build [.sl 0 (some true) [],.sl 0 (some true) [],.sl 0 (some true) [],.sl 0 (some true) [],.sl 0 (some true) [],.sl 0 (some true) [],.sl 0 (some true) [],.sl 0 (some true) [],.sl 0 (some true) [],.sl 0 (some true) [],.sl 0 (some true) [],.sl 0 (some true) [],.sl 0 (some true) [],.sl 0 (some true) [],.sl 0 (some true) [],.sl 0 (some true) [],.sl 0 (some true) [],.sl 0 (some true) [],.sl 0 (some true) [],.sl 0 (some true) [],.sl 0 (some true) [],.sl 0 (some true) [],.sl 0 (some true) [],.sl 0 (some true) []] [],cf 124 [11,12,13,14]]++sq 10 [mv 15]++sq 16 [ex 10 0,ex 10 1]++sq 8 [.alloc 8 165 [.sl 0 (some true) [],.sl 0 (some true) [],.sl 0 (some true) [],.sl 0 (some true) [],.sl 0 (some true) [],.sl 0 (some true) [],.sl 0 (some true) [],.sl 0 (some true) [],.sl 0 (some true) [],.sl 0 (some true) [],.sl 0 (some true) [],.sl 0 (some true) [],.sl 0 (some true) [],.sl 0 (some true) [],.sl 0 (some true) [],.sl 0 (some true) [],.sl 0 (some true) [],.sl 0 (some true) [],.sl 0 (some true) [],.sl 0 (some true) [],.sl 0 (some true) [],.sl 0 (some true) [],.sl 0 (some true) [],.sl 0 (some true) []]]++s0 (sr 24 8 16)++sq 9 [mv 17])) (.seq (.seq (.ie (sq 18 [mv 9,nt 18])) (.cond (t0 19) (.seq (.ie (sq 20 [.build [.sl 0 (some true) []] []]++s0 (sr 1 6 20)++sq 7 [mb false])) .ret) .skip)) (.seq (.ie (sq 21 [la 24 8,cf 126 [21],cf 199 [22]]++s0 (sr 1 6 23)++sq 7 [mb true])) .ret))))
theorem WQ:kS Tryz.prog 156 Tj 24 [.cell 6 1 true,.tmp 7]:=mf Tryz.func156 Tryz.ntmps156
def qG(sig:gB)(p:gB)(t:gB):Option (gE×Bool):=
 (oE sig p t (List.replicate 24 [])).bind fun r=>
 if r.1.length=24 then
  if r.2=true then
   if r.1.length=24 then
    (nJ r.1).bind fun r_1=>
    (sL r_1).bind fun r_2=>
    some (r_2,true)
   else none
  else
   some ([],false)
 else none
instance Qr{sig:gB}{p:gB}{t:gB}:iU (qG sig p t) fun rr=>qV Tryz.prog 156 [jy sig,(iq 1 iD) p,(iq 1 iD) t] [kJ rr.1,bD rr.2]:=⟨@fun rr h=>by
 delta qG at h;refine WQ.r_ (ia ?_);delta Tj;refine iR ?_;exact lP⟩
def Ya:ir:=
 (.seq (.ie (sq 2 [.mv (.const (.slice none 0 0))])) (.seq (.ie (sq 3 [.mD 3 2 1 [],mv 0,ap 5 2 1 8 3 4]++sq 2 [mv 5])) .ret))
theorem ZE:kS Tryz.prog 53 Ya 6 [.tmp 2]:=mf Tryz.func53 Tryz.ntmps53
def jK(l:gB):Option gB:=
 if(0+l.length)*8<=140737488355328 then
  some l
 else none
instance PV{l:gB}:iU (jK l) fun rr=>iH Tryz.prog 53 [.d (iq 1 iD l)] [] 0 fun xx ss=>xx=.own 1 3 (List.map iD rr)/\ss=[(3,.tok 2 1 rr.length)]:=⟨@fun rr h=>by
 delta jK at h;refine ZE.kL (ia ?_);delta Ya;refine iR ?_;exact lP⟩
def Tb:ir:=
 (.seq (.ie (sq 3 [bo 3 29 0]++sq 6 [.mv (.const (.slice none 0 0))])) (.seq (.ie (sq 7 [mv 1,mv 2,la 1 3,mv 1,mv 2,cf 180 [9,10,11],.slc (t0 7) 1 (some (t0 8)) (some (t0 12)) none,cf 53 [13]]++sq 6 [mv 14])) .ret))
theorem WH:kS Tryz.prog 130 Tb 15 [.tmp 6]:=mf Tryz.func130 Tryz.ntmps130
def pF(sig:gB)(t:gB)(iS:Int):Option gB:=
 (oc sig t iS).bind fun r=>
 if 0<=iS/\iS<=r/\r<=(t.length:Int)then
  (jK ((t.take r.toNat).drop iS.toNat)).bind fun r_1=>
  some r_1
 else none
instance QA{sig:gB}{t:gB}{iS:Int}:iU (pF sig t iS) fun rr=>jW Tryz.prog 130 [jy sig,(iq 1 iD) t,iD iS] ((iq 1 iD) rr):=⟨@fun rr h=>by
 delta pF at h;refine WH.jz (ia ?_);delta Tb;refine iR ?_;refine rC h fun r hr h=>?_
 refine kz h fun hp h=>?_
 refine qC [] [(3,14)] h fun r_1 hr_1 h=>?_
 exact lP⟩
def XU:ir:=
 (.seq (.ie (sq 4 [mb false])) (.seq (.seq (.ie (sq 6 [mv 0,ln 6,mv 1,ln 8,bn .neq 7 9])) (.cond (t0 10) (.seq (.ie (sq 4 [mb false])) .ret) .skip)) (.seq (.seq (.ie (sq 5 [mi 0])) (.block 0 (.loop (.seq (.seq (.ie (sq 11 [mv 5,mv 0,ln 12,bn .lss 11 13])) (.cond (t0 14) .skip (.exit 0))) (.seq (.block 1 (.seq (.draw (sq 17 [mv 0,mv 5,ix 1 17 18,ld 19,mv 1,mv 5,ix 1 21 22,ld 23,bn .neq 20 24]) [[],[],[0,1],[2],[],[],[4,5],[6],[3,7]]) (.cond (t0 25) (.seq (.ie (sq 4 [mb false])) .ret) .skip))) (.ie (sq 15 [mv 5,bi .add 15 1]++sq 5 [mv 16]))))))) (.seq (.ie (sq 4 [mb true])) .ret))))
theorem Zo:kS Tryz.prog 34 XU 26 [.tmp 4]:=mf Tryz.func34 Tryz.ntmps34
def pg(a:gB)(b:gB):Int->Option gO
 |i=>
  if(decide (i<(a.length:Int)))=true then
   if 0<=i/\i<(a.length:Int)then
    if 0<=i/\i<(b.length:Int)then
     if((a.getD i.toNat default) != (b.getD i.toNat default))=true then
      Option.map Sum.inr (
       some false)
     else
      some (.inl (IntKind.i64.wrap (i+1)))
    else none
   else none
  else
   Option.map Sum.inr (
    some true)
def lJ(a:gB)(b:gB):Option Bool:=
 if((a.length:Int) != (b.length:Int))=true then
  some false
 else
  iB (pg a b) 0
instance Ms{a:gB}{b:gB}:iU (lJ a b) fun rr=>jW Tryz.prog 34 [(iq 1 iD) a,(iq 1 iD) b] (bD rr):=⟨@fun rr h=>by
 delta lJ at h;refine Zo.jz (ia ?_);delta XU;refine iR ?_;refine iF h fun hc h=>?_
 refine kA h [4,5,11,12,13,14,15,16,17,18,19,20,21,22,23,24,25] (fun pp=>[(5,.d (iD pp))]) (fun pp=>[]) ?_;rintro i t1 h hb1;unfold pg at h;try dsimp only at h
 refine ia (iR ?_);exact lP⟩
def TB:ir:=
 (.seq (.ie (sq 2 [bo 2 171 0]++sq 4 [.mv (.const (.slice none 0 0))])) (.seq (.seq (.ie (sq 5 [mv 1,fa 0 2,ld 6,ln 7,bn .lss 5 8,mv 9]++sg 10 true 11 [fa 0 2,ld 11,mv 1,ix 1 12 13,ld 14,ln 15,bi .gtr 16 0]++sq 18 [pa 10 17])) (.cond (t0 18) (.seq (.ie (sq 19 [fa 0 2,ld 19,mv 1,ix 1 20 21,ld 22,cf 53 [23]]++sq 4 [mv 24])) .ret) .skip)) (.seq (.ie (sq 25 [mv 1,.bin .sub (i0 (-1)) (t0 25),.mD 27 2 1 [(t0 26)]]++sq 4 [mv 27])) .ret)))
theorem Xe:kS Tryz.prog 188 TB 28 [.tmp 4]:=mf Tryz.func188 Tryz.ntmps188
def oL(s:gE)(i:Int):Option gB:=
 if(decide (i<(s.length:Int)))=true then
  if 0<=i/\i<(s.length:Int)then
   if(decide (0<((s.getD i.toNat default).length:Int)))=true then
    if 0<=i/\i<(s.length:Int)then
     (jK (s.getD i.toNat default)).bind fun r=>
     some r
    else none
   else
    some [(IntKind.i64.wrap ((-1)-i))]
  else none
 else
  some [(IntKind.i64.wrap ((-1)-i))]
instance Nl{s:gE}{i:Int}:iU (oL s i) fun rr=>jW Tryz.prog 188 [kJ s,iD i] ((iq 1 iD) rr):=⟨@fun rr h=>by
 delta oL at h;refine Xe.jz (ia ?_);delta TB;refine iR ?_;refine iT h fun hc h=>?_
 refine kz h fun hp h=>?_
 refine iT h fun hc h=>?_
 refine kz h fun hp h=>?_
 refine qC [] [(3,24)] h fun r hr h=>?_
 exact lP⟩
def TK:ir:=
 (.seq (.ie (sq 1 [bo 1 171 0,.alloc 2 171 [.sl 0 (some true) []]])) (.seq (.ie (sq 6 [.build [.sl 0 (some true) []] []]++sq 3 [.alloc 3 171 [.sl 0 (some true) []]]++s0 (sr 1 3 6))) (.seq (.seq (.ie (sq 4 [mi 0])) (.block 0 (.loop (.seq (.seq (.ie (sq 7 [mv 4,fa 0 1,ld 8,ln 9,bn .lss 7 10])) (.cond (t0 11) .skip (.exit 0))) (.seq (.block 1 (.seq (.ie (sq 14 [la 1 1,mv 4,cf 188 [14,15]]++sq 5 [mv 16])) (.seq (.seq (.ie (sq 17 [mv 5,ln 17,bi .eql 18 1,mv 19]++sg 20 true 21 [mv 5,.tG 1 (t0 21) (i0 0),ld 22,mv 4,.bin .sub (i0 (-1)) (t0 24),bn .eql 23 25]++sq 27 [pa 20 26])) (.cond (t0 27) (.ie (sq 28 [.mD 28 2 1 []]++sq 5 [mv 28])) .skip)) (.ie (sq 29 [fa 0 3,ld 29,mv 5,.mD 32 27 1 [(t0 31)],ap 33 27 1 24 30 32,fa 0 3]++s0 (sr 1 34 33)))))) (.ie (sq 12 [mv 4,bi .add 12 1]++sq 4 [mv 13]))))))) (.seq (.block 2 (.loop (.seq (.seq (.ie (sq 35 [fa 0 3,ld 35,ln 36,bi .gtr 37 0,mv 38]++sg 39 true 40 [fa 0 3,ld 40,fa 0 3,ld 42,ln 43,bi .sub 44 1,ix 1 41 45,ld 46,ln 47,bi .eql 48 0]++sq 50 [pa 39 49])) (.cond (t0 50) .skip (.exit 2))) (.block 3 (.ie (sq 51 [fa 0 3,ld 51,fa 0 3,ld 53,ln 54,bi .sub 55 1,.slc (t0 52) 1 none (some (t0 56)) none,fa 0 3]++s0 (sr 1 58 57))))))) (.seq (.ie (sq 59 [la 1 3]++s0 (sr 1 2 59))) .ret)))))
theorem Xn:kS Tryz.prog 206 TK 60 [.cell 2 1 true]:=mf Tryz.func206 Tryz.ntmps206
def sS:gE->Option (gE⊕gE)
 |out_1=>
  if(decide (0<(out_1.length:Int)))=true then
   if 0<=(IntKind.i64.wrap ((out_1.length:Int)-1))/\(IntKind.i64.wrap ((out_1.length:Int)-1))<(out_1.length:Int)then
    if(((out_1.getD (IntKind.i64.wrap ((out_1.length:Int)-1)).toNat default).length:Int)==0)=true then
     if 0<=(IntKind.i64.wrap ((out_1.length:Int)-1))/\(IntKind.i64.wrap ((out_1.length:Int)-1))<=(out_1.length:Int)then
      some (.inl (out_1.take (IntKind.i64.wrap ((out_1.length:Int)-1)).toNat))
     else none
    else
     Option.map Sum.inr (
      some out_1)
   else none
  else
   Option.map Sum.inr (
    some out_1)
def sR(s:gE):(Int×gE)->Option ((Int×gE)⊕gE)
 |(i,out)=>
  if(decide (i<(s.length:Int)))=true then
   (oL s i).bind fun r=>
   if((r.length:Int)==1)=true then
    if 0<=0/\0<(r.length:Int)then
     if((r.getD 0 default)==(IntKind.i64.wrap ((-1)-i)))=true then
      if(out.length+1)*24<=140737488355328 then
       some (.inl ((IntKind.i64.wrap (i+1)),(out++[[]])))
      else none
     else
      if(out.length+1)*24<=140737488355328 then
       some (.inl ((IntKind.i64.wrap (i+1)),(out++[r])))
      else none
    else none
   else
    if(out.length+1)*24<=140737488355328 then
     some (.inl ((IntKind.i64.wrap (i+1)),(out++[r])))
    else none
  else
   Option.map Sum.inr (
    iB (sS) out)
def qv(s:gE):Option gE:=
 iB (sR s) (0,[])
instance Nn{s:gE}:iU (qv s) fun rr=>jW Tryz.prog 206 [kJ s] (kJ rr):=⟨@fun rr h=>by
 delta qv at h;refine Xn.jz (ia ?_);delta TK;refine iR ?_;refine xA h [4,5,7,8,9,10,11,12,13,14,15,16,17,18,19,20,21,22,23,24,25,26,27,28,29,30,31,32,33,34] (fun pp=>[(4,.d (iD pp.1))]) (fun pp=>[(1,.obj 171 [.d (iq 1 (iq 1 iD) s)]),(2,.obj 171 [.d (.sl 0 (some true) [])]),(3,.obj 171 [.own 1 33 (List.map (iq 1 iD) pp.2)]),(33,.tok 27 1 pp.2.length)]) ?_ ?_
 ·try dsimp only
  refine(iV.A8 3 0 33 27 1 rfl rfl rfl).trans ?_;exact wk
 rintro⟨i,out⟩ t1 h hb1;unfold sR at h;try dsimp only at h
 refine ia (iR ?_);refine it h (fun hc h=>?_) fun hc h=>?_
 ·refine rC h fun r hr h=>?_
  refine it h (fun hc h=>?_) fun hc h=>?_
  ·refine kz h fun hp h=>?_
   refine it h (fun hc h=>?_) fun hc h=>?_
   ·refine kz h fun hp h=>?_
    cases h;refine⟨_,rfl,?_⟩;refine(iV.drop 28 h_).trans ?_;refine(iV.drop 32 h_).trans ?_;exact wk
   refine kz h fun hp h=>?_
   cases h;refine⟨_,rfl,?_⟩;refine(iV.drop 32 h_).trans ?_;exact wk
  refine kz h fun hp h=>?_
  cases h;refine⟨_,rfl,?_⟩;refine(iV.drop 32 h_).trans ?_;exact wk
 replace h:=jf h hb1;refine xA h [35,36,37,38,39,40,41,42,43,44,45,46,47,48,49,50,51,52,53,54,55,56,57,58] (fun pp=>[]) (fun pp=>[(1,.obj 171 [.d (iq 1 (iq 1 iD) s)]),(2,.obj 171 [.d (.sl 0 (some true) [])]),(3,.obj 171 [.d (iq 1 (iq 1 iD) pp)])]) ?_ ?_
 ·try dsimp only
  refine(iV.drop 33 h_).trans ?_;exact wk
 rintro out_1 t1 h hb1;unfold sS at h;try dsimp only at h
 refine ia (iR ?_);exact lP⟩
def Tr:ir:=
 (.seq (.ie (sq 3 [bo 3 29 0]++sq 6 [.alloc 6 171 [.sl 0 (some true) []],mb false])) (.seq (.ie (sq 13 [.zy 13 27 1 24 [.sl 0 (some true) []] false (i0 24) (i0 24),.build [.sl 0 (some true) []] [(0,1,(t0 13))]]++sq 8 [.alloc 8 171 [.sl 0 (some true) []]]++s0 (sr 1 8 14))) (.seq (.ie (sq 9 [mi 0])) (.seq (.seq (.ie (sq 10 [mi 0])) (.block 0 (.loop (.seq (.seq (.ie (sq 15 [mv 10,mv 1,ln 16,bn .lss 15 17])) (.cond (t0 18) .skip (.exit 0))) (.seq (.block 1 (.seq (.seq (.ie (sq 21 [mv 9,mv 2,ln 22,bn .geq 21 23])) (.cond (t0 24) (.seq (.ie (sq 25 [.build [.sl 0 (some true) []] []]++s0 (sr 1 6 25)++sq 7 [mb false])) .ret) .skip)) (.seq (.seq (.ie (sq 26 [mv 1,mv 10,ix 1 26 27,ld 28,bi .geq 29 0])) (.cond (t0 30) (.seq (.seq (.draw (sq 31 [mv 1,mv 10,ix 1 31 32,ld 33,mv 2,mv 9,ix 1 35 36,ld 37,bn .neq 34 38]) [[],[],[0,1],[2],[],[],[4,5],[6],[3,7]]) (.cond (t0 39) (.seq (.ie (sq 40 [.build [.sl 0 (some true) []] []]++s0 (sr 1 6 40)++sq 7 [mb false])) .ret) .skip)) (.seq (.ie (sq 41 [mv 9,bi .add 41 1]++sq 9 [mv 42])) (.exit 1))) .skip)) (.seq (.ie (sq 43 [la 1 3,mv 2,mv 9,cf 130 [43,44,45]]++sq 11 [mv 46])) (.seq (.draw (sq 47 [fa 0 8,ld 47,mv 1,mv 10,ix 1 49 50,ld 51,.bin .sub (i0 (-1)) (t0 52),ix 1 48 53,ld 54]++sq 12 [mv 55]) [[],[0],[],[],[2,3],[4],[5],[1,6],[7],[8,0,1,2,3,4,5,6,7,8]]) (.seq (.seq (.ie (sq 56 [mv 12,ln 56,bi .gtr 57 0,mv 58]++sg 59 true 60 [mv 12,mv 11,cf 34 [60,61],nt 62]++sq 64 [pa 59 63])) (.cond (t0 64) (.seq (.ie (sq 65 [.build [.sl 0 (some true) []] []]++s0 (sr 1 6 65)++sq 7 [mb false])) .ret) .skip)) (.seq (.draw (sq 66 [fa 0 8,ld 66,mv 1,mv 10,ix 1 68 69,ld 70,.bin .sub (i0 (-1)) (t0 71),mv 11,ix 1 67 72]++s0 (sr 1 74 73)) [[],[0],[],[],[2,3],[4],[5],[],[1,6,0,1,2,3,4,5,6,7],[8,7,0,1,2,3,4,5,6,7]]) (.ie (sq 75 [mv 9,mv 11,ln 76,bn .add 75 77]++sq 9 [mv 78]))))))))) (.ie (sq 19 [mv 10,bi .add 19 1]++sq 10 [mv 20]))))))) (.seq (.ie (sq 79 [la 1 8,cf 206 [79]]++s0 (sr 1 6 80)++sq 7 [mb true])) .ret)))))
theorem WX:kS Tryz.prog 163 Tr 81 [.cell 6 1 true,.tmp 7]:=mf Tryz.func163 Tryz.ntmps163
def sV(sig:gB)(p:gB)(t:gB):(Int×Int×gE)->Option ((Int×Int×gE)⊕(gE×Bool))
 |(k,i,l13)=>
  if(decide (i<(p.length:Int)))=true then
   if(decide ((t.length:Int)<=k))=true then
    Option.map Sum.inr (
     some ([],false))
   else
    if 0<=i/\i<(p.length:Int)then
     if(decide (0<=(p.getD i.toNat default)))=true then
      if 0<=i/\i<(p.length:Int)then
       if 0<=k/\k<(t.length:Int)then
        if((p.getD i.toNat default) != (t.getD k.toNat default))=true then
         Option.map Sum.inr (
          some ([],false))
        else
         some (.inl ((IntKind.i64.wrap (k+1)),(IntKind.i64.wrap (i+1)),l13))
       else none
      else none
     else
      (pF sig t k).bind fun r=>
      if 0<=i/\i<(p.length:Int)then
       if 0<=(IntKind.i64.wrap ((-1)-(p.getD i.toNat default)))/\(IntKind.i64.wrap ((-1)-(p.getD i.toNat default)))<(24:Int)/\(IntKind.i64.wrap ((-1)-(p.getD i.toNat default)))<(l13.length:Int)then
        if(decide (0<((l13.getD (IntKind.i64.wrap ((-1)-(p.getD i.toNat default))).toNat default).length:Int)))=true then
         (lJ (l13.getD (IntKind.i64.wrap ((-1)-(p.getD i.toNat default))).toNat default) r).bind fun r_1=>
         if r_1=true then
          if 0<=i/\i<(p.length:Int)then
           if 0<=(IntKind.i64.wrap ((-1)-(p.getD i.toNat default)))/\(IntKind.i64.wrap ((-1)-(p.getD i.toNat default)))<(24:Int)/\(IntKind.i64.wrap ((-1)-(p.getD i.toNat default)))<(l13.length:Int)then
            some (.inl ((IntKind.i64.wrap (k+(r.length:Int))),(IntKind.i64.wrap (i+1)),(l13.set (IntKind.i64.wrap ((-1)-(p.getD i.toNat default))).toNat r)))
           else none
          else none
         else
          Option.map Sum.inr (
           some ([],false))
        else
         if 0<=i/\i<(p.length:Int)then
          if 0<=(IntKind.i64.wrap ((-1)-(p.getD i.toNat default)))/\(IntKind.i64.wrap ((-1)-(p.getD i.toNat default)))<(24:Int)/\(IntKind.i64.wrap ((-1)-(p.getD i.toNat default)))<(l13.length:Int)then
           some (.inl ((IntKind.i64.wrap (k+(r.length:Int))),(IntKind.i64.wrap (i+1)),(l13.set (IntKind.i64.wrap ((-1)-(p.getD i.toNat default))).toNat r)))
          else none
         else none
       else none
      else none
    else none
  else
   Option.map Sum.inr (
    if l13.length=24 then
     (qv l13).bind fun r_2=>
     some (r_2,true)
    else none)
def oM(sig:gB)(p:gB)(t:gB):Option (gE×Bool):=
 iB (sV sig p t) (0,0,(List.replicate 24 []))
instance Np{sig:gB}{p:gB}{t:gB}:iU (oM sig p t) fun rr=>qV Tryz.prog 163 [jy sig,(iq 1 iD) p,(iq 1 iD) t] [kJ rr.1,bD rr.2]:=⟨@fun rr h=>by
 delta oM at h;refine WX.r_ (ia ?_);delta Tr;refine iR ?_;refine qa ?_;refine kA h [7,9,10,11,12,15,16,17,18,19,20,21,22,23,24,25,26,27,28,29,30,31,32,33,34,35,36,37,38,39,40,41,42,43,44,45,46,47,48,49,50,51,52,53,54,55,56,57,58,59,60,61,62,63,64,65,66,67,68,69,70,71,72,73,74,75,76,77,78] (fun pp=>[(9,.d (iD pp.1)),(10,.d (iD pp.2.1))]) (fun pp=>[(3,.obj 29 [.d (iq 1 iD sig)]),(6,.obj 171 [.d (.sl 0 (some true) [])]),(8,.obj 171 [.pV 1 13 0 24]),(13,.obj 27 (List.map (aD (iq 1 iD)) pp.2.2))]) ?_;rintro⟨k,i,l13⟩ t1 h hb1;unfold sV at h;try dsimp only at h
 refine ia (iR ?_);refine iF h fun hc h=>?_
 replace h:=jf h hb1;refine kz h fun hp h=>?_
 refine Ed 13 (iq 1 iD) l13 h_ rfl (fun _=>rfl) (iR ?_);refine rC h fun r_2 hr_2 h=>?_
 exact lP⟩
def Tz:ir:=
 (.seq (.ie (sq 1 [bo 1 171 0,.mv (.const .nilFunc)])) (.seq (.ie (sq 3 [.Cj 217 [] [(t0 1)]]++sq 2 [mv 3])) .ret))
theorem Xb:kS Tryz.prog 184 Tz 4 [.tmp 2]:=mf Tryz.func184 Tryz.ntmps184
def oA(s:gE):Option gE:=
 some s
instance HH{s:gE}:iU (oA s) fun rr=>iH Tryz.prog 184 [.d (.agg [iq 1 (iq 1 iD) s])] [] 0 fun xx ss=>xx=.fn 217 [] [.ptr 1 0]/\ss=[(1,.obj 171 [.d (iq 1 (iq 1 iD) rr)])]:=⟨@fun rr h=>by
 delta oA at h;refine Xb.kL (ia ?_);delta Tz;refine iR ?_;exact lP⟩
def TQ:ir:=
 (.seq (.ie (sq 2 [bo 2 171 0]++sq 4 [.mv (.const (.slice none 0 0))])) (.seq (.seq (.ie (sq 5 [mv 1,fa 0 2,ld 6,ln 7,bn .geq 5 8,mv 9]++sg 10 false 11 [fa 0 2,ld 11,mv 1,ix 1 12 13,ld 14,ln 15,bi .eql 16 0]++sq 18 [po 10 17])) (.cond (t0 18) (.seq (.ie (sq 4 [.mv (.const (.slice none 0 0))])) .ret) .skip)) (.seq (.ie (sq 19 [fa 0 2,ld 19,mv 1,ix 1 20 21,ld 22]++sq 4 [mv 23])) .ret)))
theorem Xt:kS Tryz.prog 218 TQ 24 [.tmp 4]:=mf Tryz.func218 Tryz.ntmps218
def nh(s:gE)(i:Int):Option gB:=
 if(decide ((s.length:Int)<=i))=true then
  some []
 else
  if 0<=i/\i<(s.length:Int)then
   if(((s.getD i.toNat default).length:Int)==0)=true then
    some []
   else
    if 0<=i/\i<(s.length:Int)then
     if 0<(s.getD i.toNat default).length then
      some (s.getD i.toNat default)
     else none
    else none
  else none
instance HZ{s:gE}{i:Int}:iU (nh s i) fun rr=>jW Tryz.prog 218 [kJ s,iD i] ((oz 1 iD) rr):=⟨@fun rr h=>by
 delta nh at h;refine Xt.jz (ia ?_);delta TQ;refine iR ?_;refine iF h fun hc h=>?_
 refine kz h fun hp h=>?_
 refine iF h fun hc h=>?_
 refine kz h fun hp h=>?_
 refine kz h fun hp h=>?_
 cases h;exact(zf h_).2 trivial⟩
def TP:ir:=
 (.seq (.ie (sq 3 [.mv (.const (.slice none 0 0))])) (.seq (.seq (.ie (sq 4 [mv 0,bi .geq 4 0])) (.cond (t0 5) (.seq (.ie (sq 3 [.mv (.const (.slice none 0 0))])) .ret) .skip)) (.seq (.ie (sq 6 [la 1 1,mv 0,.bin .sub (i0 (-1)) (t0 7),cf 218 [6,8]]++sq 3 [mv 9])) .ret)))
theorem Xs:kS Tryz.prog 217 TP 10 [.tmp 3]:=mf Tryz.func217 Tryz.ntmps217
def nI(n:Int)(o0:gE):Option gB:=
 if(decide (0<=n))=true then
  some []
 else
  (nh o0 (IntKind.i64.wrap ((-1)-n))).bind fun r=>
  some r
instance FM{n:Int}{o0:gE}:iU (nI n o0) fun rr=>iH Tryz.prog 217 [.d (iD n),.ptr 0 0] [(0,.obj 171 [.d (iq 1 (iq 1 iD) o0)])] 1 fun xx ss=>xx=.d (oz 1 iD rr)/\ss=[(0,.obj 171 [.d (iq 1 (iq 1 iD) o0)])]:=⟨@fun rr h=>by
 delta nI at h;refine Xs.kL (ia ?_);delta TP;refine iR ?_;exact lP⟩
def S9:ir:=
 (.seq (.ie (sq 2 [bo 2 171 0]++sq 4 [.mv (.const (.slice none 0 0)),mb false])) (.seq (.ie (sq 11 [la 1 2,cf 184 [11]]++sq 6 [mv 12])) (.seq (.ie (sq 13 [mv 1,ln 13,.zy 15 2 1 8 [.lit (.int .i64 0)] true (i0 0) (t0 14)]++sq 7 [mv 15])) (.seq (.seq (.ie (sq 16 [mv 1,ln 16,mi 0])) (.block 0 (.loop (.seq (.ie (sq 19 [bn .lss 18 17])) (.seq (.cond (t0 19) .skip (.exit 0)) (.seq (.block 1 (.seq (.ie (sq 20 [ix 1 16 18,ld 20]++sq 9 [mv 21])) (.seq (.seq (.ie (sq 22 [mv 6,mv 9,.qW (t0 22) [(t0 23)]]++sq 10 [mv 24])) (.seq (.ie (sq 25 [mv 10,.uK false (t0 25)])) (.cond (t0 26) (.ie (sq 27 [mv 7,mv 9,.mD 29 2 1 [(t0 28)],ap 30 2 1 8 27 29]++sq 7 [mv 30])) (.ie (sq 31 [mv 7,mv 10,ap 33 2 1 8 31 32]++sq 7 [mv 33]))))) (.seq (.ie (sq 34 [mv 7,ln 34,bi .gtr 35 60])) (.cond (t0 36) (.seq (.ie (sq 4 [.mv (.const (.slice none 0 0)),mb false])) .ret) .skip))))) (.ie (sq 37 [bi .add 18 1]++sq 18 [mv 37])))))))) (.seq (.ie (sq 38 [mv 7]++sq 4 [mv 38,mb true])) .ret)))))
theorem WD:kS Tryz.prog 125 S9 39 [.tmp 4,.tmp 5]:=mf Tryz.func125 Tryz.ntmps125
def vc(t:gB)(r:gE):gU->Option (gU⊕g_)
 |(out,v18)=>
  if(decide (v18<(t.length:Int)))=true then
   if 0<=v18/\v18<(t.length:Int)then
    (nI (t.getD v18.toNat default) r).bind fun r_1=>
    if r_1.isEmpty=true then
     if(out.length+1)*8<=140737488355328 then
      if(decide (60<((out++[(t.getD v18.toNat default)]).length:Int)))=true then
       Option.map Sum.inr (
        some ([],false))
      else
       some (.inl ((out++[(t.getD v18.toNat default)]),(IntKind.i64.wrap (v18+1))))
     else none
    else
     if(out.length+r_1.length)*8<=140737488355328 then
      if(decide (60<((out++r_1).length:Int)))=true then
       Option.map Sum.inr (
        some ([],false))
      else
       some (.inl ((out++r_1),(IntKind.i64.wrap (v18+1))))
     else none
   else none
  else
   Option.map Sum.inr (
    some (out,true))
def sk(s:gE)(t:gB):Option g_:=
 (oA s).bind fun r=>
 if 0<=(t.length:Int)/\8*(t.length:Int)<=281474976710656 then
  iB (vc t r) ([],0)
 else none
instance SF{s:gE}{t:gB}:iU (sk s t) fun rr=>qV Tryz.prog 125 [kJ s,(iq 1 iD) t] [(iq 1 iD) rr.1,bD rr.2]:=⟨@fun rr h=>by
 delta sk at h;refine WD.r_ (ia ?_);delta S9;refine iR ?_;refine qC [] [(1,12)] h fun r hr h=>?_
 refine kz h fun hp h=>?_
 refine kA h [4,5,7,9,10,18,19,20,21,22,23,24,25,26,27,28,29,30,31,32,33,34,35,36,37] (fun pp=>[(7,.own 1 15 (List.map iD pp.1)),(18,.d (iD pp.2))]) (fun pp=>[(2,.obj 171 [.d (iq 1 (iq 1 iD) s)]),(12,.obj 171 [.d (iq 1 (iq 1 iD) r)]),(15,.tok 2 1 pp.1.length)]) ?_;rintro⟨out,v18⟩ t1 h hb1;unfold vc at h;try dsimp only at h
 refine ia (iR ?_);refine iT h fun hc h=>?_
 refine kz h fun hp h=>?_
 refine wj (by kernel_rfl) ?_;refine qC [(0,12)] [] h fun r_1 hr_1 h=>?_
 refine iT h fun hc h=>?_
 refine kz h fun hp h=>?_
 refine iF h fun hc h=>?_
 cases h;refine⟨_,rfl,?_⟩;refine(iV.drop 29 h_).trans ?_;exact wk⟩
def Tc:ir:=
 (.seq (.ie (sq 2 [bo 2 171 0]++sq 4 [.mv (.const (.slice none 0 0)),mb false])) (.seq (.ie (sq 8 [.mD 8 2 1 []]++sq 6 [mv 8])) (.seq (.seq (.ie (sq 7 [mi 0])) (.block 0 (.loop (.seq (.seq (.ie (sq 9 [mv 7,mv 1,ln 10,bn .lss 9 11])) (.cond (t0 12) .skip (.exit 0))) (.seq (.block 1 (.seq (.seq (.ie (sq 15 [mv 1,mv 7,ix 1 15 16,ld 17,bi .lss 18 0])) (.cond (t0 19) (.draw (sq 20 [mv 6,la 1 2,mv 1,mv 7,ix 1 22 23,ld 24,.bin .sub (i0 (-1)) (t0 25),cf 188 [21,26],ap 28 2 1 8 20 27]++sq 6 [mv 28]) [[],[],[],[],[2,3],[4],[5],[1,6],[0,7,7],[8,8,0,1,2,3,4,5,6,7,8]]) (.ie (sq 29 [mv 6,mv 1,mv 7,ix 1 30 31,ld 32,.mD 34 2 1 [(t0 33)],ap 35 2 1 8 29 34]++sq 6 [mv 35])))) (.seq (.ie (sq 36 [mv 6,ln 36,bi .gtr 37 60])) (.cond (t0 38) (.seq (.ie (sq 39 [.mD 39 2 1 []]++sq 4 [mv 39,mb false])) .ret) .skip)))) (.ie (sq 13 [mv 7,bi .add 13 1]++sq 7 [mv 14]))))))) (.seq (.ie (sq 40 [mv 6]++sq 4 [mv 40,mb true])) .ret))))
theorem WI:kS Tryz.prog 131 Tc 41 [.tmp 4,.tmp 5]:=mf Tryz.func131 Tryz.ntmps131
def rY(s:gE)(t:gB):gU->Option (gU⊕g_)
 |(out,i)=>
  if(decide (i<(t.length:Int)))=true then
   if 0<=i/\i<(t.length:Int)then
    if(decide ((t.getD i.toNat default)<0))=true then
     if 0<=i/\i<(t.length:Int)then
      (oL s (IntKind.i64.wrap ((-1)-(t.getD i.toNat default)))).bind fun r=>
      if(out.length+r.length)*8<=140737488355328 then
       if(decide (60<((out++r).length:Int)))=true then
        Option.map Sum.inr (
         some ([],false))
       else
        some (.inl ((out++r),(IntKind.i64.wrap (i+1))))
      else none
     else none
    else
     if 0<=i/\i<(t.length:Int)then
      if(out.length+1)*8<=140737488355328 then
       if(decide (60<((out++[(t.getD i.toNat default)]).length:Int)))=true then
        Option.map Sum.inr (
         some ([],false))
       else
        some (.inl ((out++[(t.getD i.toNat default)]),(IntKind.i64.wrap (i+1))))
      else none
     else none
   else none
  else
   Option.map Sum.inr (
    some (out,true))
def nQ(s:gE)(t:gB):Option g_:=
 iB (rY s t) ([],0)
instance Mx{s:gE}{t:gB}:iU (nQ s t) fun rr=>qV Tryz.prog 131 [kJ s,(iq 1 iD) t] [(iq 1 iD) rr.1,bD rr.2]:=⟨@fun rr h=>by
 delta nQ at h;refine WI.r_ (ia ?_);delta Tc;refine iR ?_;refine kA h [4,5,6,7,9,10,11,12,13,14,15,16,17,18,19,20,21,22,23,24,25,26,27,28,29,30,31,32,33,34,35,36,37,38,39] (fun pp=>[(6,.own 1 8 (List.map iD pp.1)),(7,.d (iD pp.2))]) (fun pp=>[(2,.obj 171 [.d (iq 1 (iq 1 iD) s)]),(8,.tok 2 1 pp.1.length)]) ?_;rintro⟨out,i⟩ t1 h hb1;unfold rY at h;try dsimp only at h
 refine ia (iR ?_);refine iT h fun hc h=>?_
 refine kz h fun hp h=>?_
 refine iF h fun hc h=>?_
 refine kz h fun hp h=>?_
 refine kz h fun hp h=>?_
 refine iF h fun hc h=>?_
 cases h;refine⟨_,rfl,?_⟩;refine(iV.drop 34 h_).trans ?_;exact wk⟩
end Go.Proofs.YtjgbnaihpicpgaaGreat
