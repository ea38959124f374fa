/- A part of the proof about FnUnravelled (G2, G3). -/
import Derived.Test.YtelhemjlfkbkeaaGreatUe
set_option linter.all false
noncomputable section
namespace Go.Proofs.YtelhemjlfkbkeaaGreat
open Go oe
attribute [local irreducible] xL zb yK oW pM sV pO Er FY CG FX Cg yg pT rE EZ jr oN
set_option maxHeartbeats 4000000
set_option maxRecDepth 4000
def lP(x:fM):D:=.agg [(gN 1 (gN 1 iD)) x]
instance:uK lP 1:=⟨fun _=>rfl⟩
attribute [go_sem] lP
def W_:gR:=
 (.seq (.gz (sq 3 [bo 3 26 0]++sq 6 [.mv (.const (.slice none 0 0))])) (.seq (.gz (sq 7 [mv 1,mv 2,la 1 3,mv 1,mv 2,cf 88 [9,10,11],.slc (t0 7) 1 (some (t0 8)) (some (t0 12)) none]++sq 6 [mv 13])) .ret))
theorem Zi:lE Tryz.prog 47 W_ 14 [.tmp 6]:=mf Tryz.func47 Tryz.ntmps47
def mP(sig:fI)(t:fI)(iz:Int):Option fI:=
 (nH sig t iz).bind fun r=>
 if 0<=iz/\iz<=r/\r<=(t.length:Int)then
  some ((t.take r.toNat).drop iz.toNat)
 else none
instance Rr{sig:fI}{t:fI}{iz:Int}:iH (mP sig t iz) fun rr=>lz Tryz.prog 47 [iZ sig,(gN 1 iD) t,iD iz] ((gN 1 iD) rr):=⟨@fun rr h=>by
 delta mP at h;refine Zi.jO (gv ?_);delta W_;refine iL ?_;exact od⟩
def XM:gR:=
 (.seq (.gz (sq 4 [mb false])) (.seq (.seq (.gz (sq 6 [mv 0,ln 6,mv 1,ln 8,bn .neq 7 9])) (.cond (t0 10) (.seq (.gz (sq 4 [mb false])) .ret) .skip)) (.seq (.seq (.gz (sq 11 [mv 0,ln 11,mi 0])) (.block 0 (.loop (.seq (.gz (sq 14 [bn .lss 13 12])) (.seq (.cond (t0 14) .skip (.exit 0)) (.seq (.block 1 (.seq (.gz (sq 15 [mv 13]++sq 5 [mv 15])) (.seq (.draw (sq 16 [mv 0,mv 5,ix 1 16 17,ld 18,mv 1,mv 5,ix 1 20 21,ld 22,bn .neq 19 23]) [[],[],[0,1],[2],[],[],[4,5],[6],[3,7]]) (.cond (t0 24) (.seq (.gz (sq 4 [mb false])) .ret) .skip)))) (.gz (sq 25 [bi .add 13 1]++sq 13 [mv 25])))))))) (.seq (.gz (sq 4 [mb true])) .ret))))
theorem ZP:lE Tryz.prog 89 XM 26 [.tmp 4]:=mf Tryz.func89 Tryz.ntmps89
def lY(s1:fI)(s2:fI):Int->Option fZ
 |v13=>
  if(decide (v13<(s1.length:Int)))=true then
   if 0<=v13/\v13<(s1.length:Int)then
    if 0<=v13/\v13<(s2.length:Int)then
     if((s1.getD v13.toNat default) != (s2.getD v13.toNat default))=true then
      Option.map Sum.inr (
       some false)
     else
      some (.inl (IntKind.i64.wrap (v13+1)))
    else none
   else none
  else
   Option.map Sum.inr (
    some true)
def kC(s1:fI)(s2:fI):Option Bool:=
 if((s1.length:Int) != (s2.length:Int))=true then
  some false
 else
  gI (lY s1 s2) 0
instance Dl{s1:fI}{s2:fI}:iH (kC s1 s2) fun rr=>lz Tryz.prog 89 [(gN 1 iD) s1,(gN 1 iD) s2] (bD rr):=⟨@fun rr h=>by
 delta kC at h;refine ZP.jO (gv ?_);delta XM;refine iL ?_;refine iF h fun hc h=>?_
 refine jV h [4,5,13,14,15,16,17,18,19,20,21,22,23,24,25] (fun pp=>[(13,.d (iD pp))]) (fun pp=>[]) ?_;rintro v13 t1 h hb1;unfold lY at h;try dsimp only at h
 refine gv (iL ?_);exact od⟩
def W9:gR:=
 (.seq (.gz (sq 4 [bo 4 26 0]++sq 7 [bo 7 85 3,.alloc 8 85 [.sl 0 (some true) [],.sl 0 (some true) [],.sl 0 (some true) [],.sl 0 (some true) [],.sl 0 (some true) [],.sl 0 (some true) [],.sl 0 (some true) [],.sl 0 (some true) [],.sl 0 (some true) [],.sl 0 (some true) [],.sl 0 (some true) [],.sl 0 (some true) [],.sl 0 (some true) [],.sl 0 (some true) [],.sl 0 (some true) [],.sl 0 (some true) [],.sl 0 (some true) [],.sl 0 (some true) [],.sl 0 (some true) [],.sl 0 (some true) [],.sl 0 (some true) [],.sl 0 (some true) [],.sl 0 (some true) [],.sl 0 (some true) []],mb false])) (.seq (.gz (sq 10 [mi 0])) (.seq (.seq (.gz (sq 14 [mv 1,ln 14,mi 0])) (.block 0 (.loop (.seq (.gz (sq 17 [bn .lss 16 15])) (.seq (.cond (t0 17) .skip (.exit 0)) (.seq (.block 1 (.seq (.gz (sq 18 [ix 1 14 16,ld 18]++sq 12 [mv 19])) (.seq (.seq (.gz (sq 20 [mv 10,mv 2,ln 21,bn .geq 20 22])) (.cond (t0 23) (.seq (.gz (sq 24 [la 24 7]++s0 (sr 24 8 24)++sq 9 [mb false])) .ret) .skip)) (.seq (.seq (.gz (sq 25 [mv 12,bi .geq 25 0])) (.cond (t0 26) (.seq (.seq (.gz (sq 27 [mv 2,mv 10,ix 1 27 28,ld 29,mv 12,bn .neq 30 31])) (.cond (t0 32) (.seq (.gz (sq 33 [la 24 7]++s0 (sr 24 8 33)++sq 9 [mb false])) .ret) .skip)) (.seq (.gz (sq 34 [mv 10,bi .add 34 1]++sq 10 [mv 35])) (.exit 1))) .skip)) (.seq (.gz (sq 36 [la 1 4,mv 2,mv 10,cf 47 [36,37,38]]++sq 13 [mv 39])) (.seq (.seq (.gz (sq 40 [mv 12,.bin .sub (i0 (-1)) (t0 40),.DJ 1 24 (t0 7) (t0 41),ld 42,.xT false (t0 43)])) (.cond (t0 44) (.gz (sq 45 [mv 12,.bin .sub (i0 (-1)) (t0 45),mv 13,.DJ 1 24 (t0 7) (t0 46)]++s0 (sr 1 48 47))) (.seq (.gz (sq 49 [mv 12,.bin .sub (i0 (-1)) (t0 49),.DJ 1 24 (t0 7) (t0 50),ld 51,mv 13,cf 89 [52,53],nt 54])) (.cond (t0 55) (.seq (.gz (sq 56 [la 24 7]++s0 (sr 24 8 56)++sq 9 [mb false])) .ret) .skip)))) (.gz (sq 57 [mv 10,mv 13,ln 58,bn .add 57 59]++sq 10 [mv 60])))))))) (.gz (sq 61 [bi .add 16 1]++sq 16 [mv 61])))))))) (.seq (.gz (sq 62 [la 24 7]++s0 (sr 24 8 62)++sq 9 [mb true])) .ret))))
theorem Zh:lE Tryz.prog 46 W9 63 [.cell 8 24 true,.tmp 9]:=mf Tryz.func46 Tryz.ntmps46
def sy(sig:fI)(p:fI)(t:fI):(Int×Int×fM)->Option ((Int×Int×fM)⊕gn)
 |(iz,v16,b_1)=>
  if(decide (v16<(p.length:Int)))=true then
   if 0<=v16/\v16<(p.length:Int)then
    if(decide ((t.length:Int)<=iz))=true then
     if b_1.length=24 then
      if b_1.length=24 then
       Option.map Sum.inr (
        some (b_1,false))
      else none
     else none
    else
     if(decide (0<=(p.getD v16.toNat default)))=true then
      if 0<=iz/\iz<(t.length:Int)then
       if((t.getD iz.toNat default) != (p.getD v16.toNat default))=true then
        if b_1.length=24 then
         if b_1.length=24 then
          Option.map Sum.inr (
           some (b_1,false))
         else none
        else none
       else
        some (.inl ((IntKind.i64.wrap (iz+1)),(IntKind.i64.wrap (v16+1)),b_1))
      else none
     else
      (mP sig t iz).bind fun r=>
      if 0<=(IntKind.i64.wrap ((-1)-(p.getD v16.toNat default)))/\(IntKind.i64.wrap ((-1)-(p.getD v16.toNat default)))<24/\(IntKind.i64.wrap ((-1)-(p.getD v16.toNat default)))<(b_1.length:Int)then
       if(b_1.getD (IntKind.i64.wrap ((-1)-(p.getD v16.toNat default))).toNat default).isEmpty=true then
        if 0<=(IntKind.i64.wrap ((-1)-(p.getD v16.toNat default)))/\(IntKind.i64.wrap ((-1)-(p.getD v16.toNat default)))<24/\(IntKind.i64.wrap ((-1)-(p.getD v16.toNat default)))<(b_1.length:Int)then
         if 0<r.length then
          some (.inl ((IntKind.i64.wrap (iz+(r.length:Int))),(IntKind.i64.wrap (v16+1)),(b_1.set (IntKind.i64.wrap ((-1)-(p.getD v16.toNat default))).toNat r)))
         else none
        else none
       else
        if 0<=(IntKind.i64.wrap ((-1)-(p.getD v16.toNat default)))/\(IntKind.i64.wrap ((-1)-(p.getD v16.toNat default)))<24/\(IntKind.i64.wrap ((-1)-(p.getD v16.toNat default)))<(b_1.length:Int)then
         (kC (b_1.getD (IntKind.i64.wrap ((-1)-(p.getD v16.toNat default))).toNat default) r).bind fun r_1=>
         if r_1=true then
          some (.inl ((IntKind.i64.wrap (iz+(r.length:Int))),(IntKind.i64.wrap (v16+1)),b_1))
         else
          if b_1.length=24 then
           if b_1.length=24 then
            Option.map Sum.inr (
             some (b_1,false))
           else none
          else none
        else none
      else none
   else none
  else
   Option.map Sum.inr (
    if b_1.length=24 then
     if b_1.length=24 then
      some (b_1,true)
     else none
    else none)
def kB(sig:fI)(p:fI)(t:fI)(b:fM):Option gn:=
 gI (sy sig p t) (0,0,b)
instance L0{sig:fI}{p:fI}{t:fI}{b:fM}:iH (kB sig p t b) fun rr=>ki Tryz.prog 46 [iZ sig,(gN 1 iD) p,(gN 1 iD) t,(Yt (Ad 1 iD)) b] [(Yt (Ad 1 iD)) rr.1,bD rr.2]:=⟨@fun rr h=>by
 delta kB at h;refine Zh.mK (gv ?_);delta W9;refine iL ?_;refine jV h [9,10,12,13,16,17,18,19,20,21,22,23,24,25,26,27,28,29,30,31,32,33,34,35,36,37,38,39,40,41,42,43,44,45,46,47,48,49,50,51,52,53,54,55,56,57,58,59,60,61] (fun pp=>[(10,.d (iD pp.1)),(16,.d (iD pp.2.1))]) (fun pp=>[(4,.obj 26 [.d (gN 1 iD sig)]),(7,.obj 85 (List.map (aD (Ad 1 iD)) pp.2.2)),(8,.obj 85 [.d (.sl 0 (some true) []),.d (.sl 0 (some true) []),.d (.sl 0 (some true) []),.d (.sl 0 (some true) []),.d (.sl 0 (some true) []),.d (.sl 0 (some true) []),.d (.sl 0 (some true) []),.d (.sl 0 (some true) []),.d (.sl 0 (some true) []),.d (.sl 0 (some true) []),.d (.sl 0 (some true) []),.d (.sl 0 (some true) []),.d (.sl 0 (some true) []),.d (.sl 0 (some true) []),.d (.sl 0 (some true) []),.d (.sl 0 (some true) []),.d (.sl 0 (some true) []),.d (.sl 0 (some true) []),.d (.sl 0 (some true) []),.d (.sl 0 (some true) []),.d (.sl 0 (some true) []),.d (.sl 0 (some true) []),.d (.sl 0 (some true) []),.d (.sl 0 (some true) [])])]) ?_;rintro⟨iz,v16,b_1⟩ t1 h hb1;unfold sy at h;try dsimp only at h
 refine gv (iL ?_);refine iT h fun hc h=>?_
 refine kz h fun hp h=>?_
 refine iF h fun hc h=>?_
 refine iF h fun hc h=>?_
 refine rC h fun r hr h=>?_
 refine kz h fun hp h=>?_
 refine iT h fun hc h=>?_
 refine kz h fun hp h=>?_
 refine kz h fun hp h=>?_
 cases h;refine⟨_,rfl,?_⟩;refine(iB.Z9 (s':=[(4,.obj 26 [.d (gN 1 iD sig)]),(7,.obj 85 (List.map (aD (Ad 1 iD)) (b_1.set (IntKind.i64.wrap ((-1)-(p.getD v16.toNat default))).toNat r))),(8,.obj 85 [.d (.sl 0 (some true) []),.d (.sl 0 (some true) []),.d (.sl 0 (some true) []),.d (.sl 0 (some true) []),.d (.sl 0 (some true) []),.d (.sl 0 (some true) []),.d (.sl 0 (some true) []),.d (.sl 0 (some true) []),.d (.sl 0 (some true) []),.d (.sl 0 (some true) []),.d (.sl 0 (some true) []),.d (.sl 0 (some true) []),.d (.sl 0 (some true) []),.d (.sl 0 (some true) []),.d (.sl 0 (some true) []),.d (.sl 0 (some true) []),.d (.sl 0 (some true) []),.d (.sl 0 (some true) []),.d (.sl 0 (some true) []),.d (.sl 0 (some true) []),.d (.sl 0 (some true) []),.d (.sl 0 (some true) []),.d (.sl 0 (some true) []),.d (.sl 0 (some true) [])])]) (jr.refl _) (by exact(EI (yp.refl _) (EI ⟨rfl,Pb gu (by first|exact(K8 gu).2 trivial|exact(JO gu).2 trivial|exact DM.2 trivial|exact Fo.2 trivial)⟩ (EI (yp.refl _) IC))))).trans ?_;exact wk⟩
def Xb:gR:=
 (.seq (.gz (sq 1 [bo 1 85 0,.alloc 2 93 [.sl 0 (some true) []]])) (.seq (.gz (sq 3 [.GH (t0 1) 1 24 none none none,.build [.sl 0 (some true) []] [(0,1,(t0 3))]]++s0 (sr 1 2 4))) .ret))
theorem Zk:lE Tryz.prog 49 Xb 5 [.cell 2 1 true]:=mf Tryz.func49 Tryz.ntmps49
def jw(b:fM):Option fM:=
 if b.length=24 then
  some b
 else none
instance G0{b:fM}:iH (jw b) fun rr=>lz Tryz.prog 49 [(Yt (Ad 1 iD)) b] (lP rr):=⟨@fun rr h=>by
 delta jw at h;refine Zk.X1 (gv ?_);delta Xb;refine iL ?_;refine kz h fun hp h=>?_
 cases h;exact⟨_,_,(gx.Ws 1 (Ad 1 iD) b gu rfl),q_⟩⟩
def TS:gR:=
 (.seq (.gz (sq 2 [.mv (.const (.slice none 0 0))])) (.seq (.gz (sq 3 [mv 0,.bin .sub (i0 (-1)) (t0 3),.mH 5 2 1 [(t0 4)]]++sq 2 [mv 5])) .ret))
theorem Wm:lE Tryz.prog 128 TS 6 [.tmp 2]:=mf Tryz.func128 Tryz.ntmps128
def sQ(i:Int):Option fI:=
 some [(IntKind.i64.wrap ((-1)-i))]
instance Nl{i:Int}:iH (sQ i) fun rr=>lz Tryz.prog 128 [iD i] ((gN 1 iD) rr):=⟨@fun rr h=>by
 delta sQ at h;refine Wm.jO (gv ?_);delta TS;refine iL ?_;exact od⟩
def Xh:gR:=
 (.seq (.gz (sq 2 [.mv (.const (.slice none 0 0))])) (.seq (.seq (.gz (sq 3 [mv 0,.xT false (t0 3)])) (.cond (t0 4) (.seq (.gz (sq 2 [.mv (.const (.slice none 0 0))])) .ret) .skip)) (.seq (.gz (sq 5 [.mH 5 2 1 [],mv 0,ap 7 2 1 8 5 6]++sq 2 [mv 7])) .ret)))
theorem Zp:lE Tryz.prog 56 Xh 8 [.tmp 2]:=mf Tryz.func56 Tryz.ntmps56
def iW(s:fI):Option fI:=
 LQ s (
  some []) (
  if(0+s.length)*8<=140737488355328 then
   some s
  else none)
instance Dk{s:fI}:iH (iW s) fun rr=>lz Tryz.prog 56 [(gN 1 iD) s] ((gN 1 iD) rr):=⟨@fun rr h=>by
 delta iW at h;refine Zp.jO (gv ?_);delta Xh;refine iL ?_;have h1:=Hh h;refine yg.of (fun he=>?_) ?_
 ·replace h:=h1.1 (by simpa using he);clear h1;refine iL ?_;exact od
 ·replace h:=h1.2;clear h1;refine iL ?_;exact od⟩
def TP:gR:=
 (.seq (.gz (sq 1 [bo 1 93 0,.alloc 2 93 [.sl 0 (some true) []]])) (.seq (.gz (sq 3 [.alloc 3 93 [.sl 0 (some true) []]])) (.seq (.seq (.gz (sq 6 [fa 0 1,ld 6,ln 7,mi 0])) (.block 0 (.loop (.seq (.gz (sq 10 [bn .lss 9 8])) (.seq (.cond (t0 10) .skip (.exit 0)) (.seq (.block 1 (.seq (.gz (sq 11 [mv 9,ix 1 7 9,ld 12]++sq 4 [mv 11,mv 13])) (.seq (.seq (.gz (sq 14 [mv 5,ln 14,bi .eql 15 0,mv 16]++sg 17 false 18 [mv 5,mv 4,cf 128 [19],cf 89 [18,20]]++sq 22 [po 17 21])) (.cond (t0 22) (.exit 1) .skip)) (.seq (.block 2 (.loop (.seq (.seq (.gz (sq 23 [fa 0 3,ld 23,ln 24,mv 4,bn .lss 25 26])) (.cond (t0 27) .skip (.exit 2))) (.block 3 (.gz (sq 28 [fa 0 3,ld 28,.mH 30 24 1 [(.const (.slice none 0 0))],ap 31 24 1 24 29 30,fa 0 3]++s0 (sr 1 32 31))))))) (.draw (sq 33 [fa 0 3,ld 33,mv 5,cf 56 [35],.mH 37 24 1 [(t0 36)],ap 38 24 1 24 34 37,fa 0 3]++s0 (sr 1 39 38)) [[],[0],[],[2],[3],[1,4,3],[0,1,2,3,4,5],[6,5,5,0,1,2,3,4,5]]))))) (.gz (sq 40 [bi .add 9 1]++sq 9 [mv 40])))))))) (.seq (.gz (sq 41 [la 1 3]++s0 (sr 1 2 41))) .ret))))
theorem Wj:lE Tryz.prog 125 TP 42 [.cell 2 1 true]:=mf Tryz.func125 Tryz.ntmps125
def vK(s:fM)(v9:Int):fM->Option (fM⊕((Int×fM)⊕fM))
 |out_1=>
  if(decide ((out_1.length:Int)<v9))=true then
   if(out_1.length+1)*24<=140737488355328 then
    some (.inl (out_1++[[]]))
   else none
  else
   Option.map Sum.inr (
    (iW (s.getD v9.toNat default)).bind fun r_2=>
    if(out_1.length+1)*24<=140737488355328 then
     some (.inl ((IntKind.i64.wrap (v9+1)),(out_1++[r_2])))
    else none)
def vJ(s:fM):(Int×fM)->Option ((Int×fM)⊕fM)
 |(v9,out)=>
  if(decide (v9<(s.length:Int)))=true then
   if 0<=v9/\v9<(s.length:Int)then
    if(((s.getD v9.toNat default).length:Int)==0)=true then
     some (.inl ((IntKind.i64.wrap (v9+1)),out))
    else
     (sQ v9).bind fun r=>
     (kC (s.getD v9.toNat default) r).bind fun r_1=>
     if r_1=true then
      some (.inl ((IntKind.i64.wrap (v9+1)),out))
     else
      gI (vK s v9) out
   else none
  else
   Option.map Sum.inr (
    some out)
def uc(s:fM):Option fM:=
 gI (vJ s) (0,[])
instance Ro{s:fM}:iH (uc s) fun rr=>lz Tryz.prog 125 [lP s] (lP rr):=⟨@fun rr h=>by
 delta uc at h;refine Wj.jO (gv ?_);delta TP;refine iL ?_;refine rZ h [4,5,9,10,11,12,13,14,15,16,17,18,19,20,21,22,23,24,25,26,27,28,29,30,31,32,33,34,35,36,37,38,39,40] (fun pp=>[(9,.d (iD pp.1))]) (fun pp=>[(1,.obj 93 [.d (gN 1 (gN 1 iD) s)]),(2,.obj 93 [.d (.sl 0 (some true) [])]),(3,.obj 93 [.own 1 38 (List.map (gN 1 iD) pp.2)]),(38,.tok 24 1 pp.2.length)]) ?_ ?_
 ·try dsimp only
  refine(iB.yb 3 0 38 24 1 rfl rfl rfl).trans ?_;exact wk
 rintro⟨v9,out⟩ t1 h hb1;unfold vJ at h;try dsimp only at h
 refine gv (iL ?_);refine iT h fun hc h=>?_
 refine kz h fun hp h=>?_
 refine iF h fun hc h=>?_
 refine rC h fun r hr h=>?_
 refine rC h fun r_1 hr_1 h=>?_
 refine iF h fun hc h=>?_
 refine jV h [23,24,25,26,27,28,29,30,31,32] (fun pp=>[]) (fun pp=>[(1,.obj 93 [.d (gN 1 (gN 1 iD) s)]),(2,.obj 93 [.d (.sl 0 (some true) [])]),(3,.obj 93 [.own 1 38 (List.map (gN 1 iD) pp)]),(38,.tok 24 1 pp.length)]) ?_;rintro out_1 t2 h hb2;unfold vK at h;try dsimp only at h
 refine gv (iL ?_);refine it h (fun hc h=>?_) fun hc h=>?_
 ·refine kz h fun hp h=>?_
  cases h;refine⟨_,rfl,?_⟩;refine(iB.drop 30 gu).trans ?_;exact wk
 replace h:=g_ h hb2;refine dC h fun r_2 hr_2 h=>?_
 refine kz h fun hp h=>?_
 refine jo (by kernel_rfl) (iL ?_);cases h;refine⟨_,rfl,?_⟩;refine(iB.drop 37 gu).trans ?_;exact wk⟩
def TG:gR:=
 (.seq (.gz (sq 3 [bo 3 26 0]++sq 6 [.alloc 6 93 [.sl 0 (some true) []],mb false])) (.seq (.gz (sq 11 [la 1 3,mv 1,mv 2,.build [.sl 0 (some true) [],.sl 0 (some true) [],.sl 0 (some true) [],.sl 0 (some true) [],.sl 0 (some true) [],.sl 0 (some true) [],.sl 0 (some true) [],.sl 0 (some true) [],.sl 0 (some true) [],.sl 0 (some true) [],.sl 0 (some true) [],.sl 0 (some true) [],.sl 0 (some true) [],.sl 0 (some true) [],.sl 0 (some true) [],.sl 0 (some true) [],.sl 0 (some true) [],.sl 0 (some true) [],.sl 0 (some true) [],.sl 0 (some true) [],.sl 0 (some true) [],.sl 0 (some true) [],.sl 0 (some true) [],.sl 0 (some true) []] [],cf 46 [11,12,13,14]]++sq 10 [mv 15]++sq 16 [ex 10 0,ex 10 1]++sq 8 [.alloc 8 85 [.sl 0 (some true) [],.sl 0 (some true) [],.sl 0 (some true) [],.sl 0 (some true) [],.sl 0 (some true) [],.sl 0 (some true) [],.sl 0 (some true) [],.sl 0 (some true) [],.sl 0 (some true) [],.sl 0 (some true) [],.sl 0 (some true) [],.sl 0 (some true) [],.sl 0 (some true) [],.sl 0 (some true) [],.sl 0 (some true) [],.sl 0 (some true) [],.sl 0 (some true) [],.sl 0 (some true) [],.sl 0 (some true) [],.sl 0 (some true) [],.sl 0 (some true) [],.sl 0 (some true) [],.sl 0 (some true) [],.sl 0 (some true) []]]++s0 (sr 24 8 16)++sq 9 [mv 17])) (.seq (.seq (.gz (sq 18 [mv 9,nt 18])) (.cond (t0 19) (.seq (.gz (sq 20 [.build [.sl 0 (some true) []] []]++s0 (sr 1 6 20)++sq 7 [mb false])) .ret) .skip)) (.seq (.gz (sq 21 [la 24 8,cf 49 [21],cf 125 [22]]++s0 (sr 1 6 23)++sq 7 [mb true])) .ret))))
theorem Wb:lE Tryz.prog 117 TG 24 [.cell 6 1 true,.tmp 7]:=mf Tryz.func117 Tryz.ntmps117
def ua(sig:fI)(p:fI)(t:fI):Option gn:=
 (kB sig p t (List.replicate 24 [])).bind fun r=>
 if r.1.length=24 then
  if r.2=true then
   if r.1.length=24 then
    (jw r.1).bind fun r_1=>
    (uc r_1).bind fun r_2=>
    some (r_2,true)
   else none
  else
   some ([],false)
 else none
instance Rn{sig:fI}{p:fI}{t:fI}:iH (ua sig p t) fun rr=>ki Tryz.prog 117 [iZ sig,(gN 1 iD) p,(gN 1 iD) t] [lP rr.1,bD rr.2]:=⟨@fun rr h=>by
 delta ua at h;refine Wb.mK (gv ?_);delta TG;refine iL ?_;exact od⟩
def WS:gR:=
 (.seq (.gz (sq 2 [.mv (.const (.slice none 0 0))])) (.seq (.gz (sq 3 [.mH 3 2 1 [],mv 0,ap 5 2 1 8 3 4]++sq 2 [mv 5])) .ret))
theorem Y1:lE Tryz.prog 27 WS 6 [.tmp 2]:=mf Tryz.func27 Tryz.ntmps27
def iX(l:fI):Option fI:=
 if(0+l.length)*8<=140737488355328 then
  some l
 else none
instance QT{l:fI}:iH (iX l) fun rr=>hY Tryz.prog 27 [.d (gN 1 iD l)] [] 0 fun xx ss=>xx=.own 1 3 (List.map iD rr)/\ss=[(3,.tok 2 1 rr.length)]:=⟨@fun rr h=>by
 delta iX at h;refine Y1.nN (gv ?_);delta WS;refine iL ?_;exact od⟩
def UQ:gR:=
 (.seq (.gz (sq 3 [bo 3 26 0]++sq 6 [.mv (.const (.slice none 0 0))])) (.seq (.gz (sq 7 [mv 1,mv 2,la 1 3,mv 1,mv 2,cf 83 [9,10,11],.slc (t0 7) 1 (some (t0 8)) (some (t0 12)) none,cf 27 [13]]++sq 6 [mv 14])) .ret))
theorem Wo:lE Tryz.prog 53 UQ 15 [.tmp 6]:=mf Tryz.func53 Tryz.ntmps53
def kR(sig:fI)(t:fI)(iz:Int):Option fI:=
 (lU sig t iz).bind fun r=>
 if 0<=iz/\iz<=r/\r<=(t.length:Int)then
  (iX ((t.take r.toNat).drop iz.toNat)).bind fun r_1=>
  some r_1
 else none
instance RB{sig:fI}{t:fI}{iz:Int}:iH (kR sig t iz) fun rr=>lz Tryz.prog 53 [iZ sig,(gN 1 iD) t,iD iz] ((gN 1 iD) rr):=⟨@fun rr h=>by
 delta kR at h;refine Wo.jO (gv ?_);delta UQ;refine iL ?_;refine rC h fun r hr h=>?_
 refine kz h fun hp h=>?_
 refine mA [] [(3,14)] h fun r_1 hr_1 h=>?_
 exact od⟩
def WD:gR:=
 (.seq (.gz (sq 4 [mb false])) (.seq (.seq (.gz (sq 6 [mv 0,ln 6,mv 1,ln 8,bn .neq 7 9])) (.cond (t0 10) (.seq (.gz (sq 4 [mb false])) .ret) .skip)) (.seq (.seq (.gz (sq 5 [mi 0])) (.block 0 (.loop (.seq (.seq (.gz (sq 11 [mv 5,mv 0,ln 12,bn .lss 11 13])) (.cond (t0 14) .skip (.exit 0))) (.seq (.block 1 (.seq (.draw (sq 17 [mv 0,mv 5,ix 1 17 18,ld 19,mv 1,mv 5,ix 1 21 22,ld 23,bn .neq 20 24]) [[],[],[0,1],[2],[],[],[4,5],[6],[3,7]]) (.cond (t0 25) (.seq (.gz (sq 4 [mb false])) .ret) .skip))) (.gz (sq 15 [mv 5,bi .add 15 1]++sq 5 [mv 16]))))))) (.seq (.gz (sq 4 [mb true])) .ret))))
theorem YO:lE Tryz.prog 12 WD 26 [.tmp 4]:=mf Tryz.func12 Tryz.ntmps12
def qA(a:fI)(b:fI):Int->Option fZ
 |i=>
  if(decide (i<(a.length:Int)))=true then
   if 0<=i/\i<(a.length:Int)then
    if 0<=i/\i<(b.length:Int)then
     if((a.getD i.toNat default) != (b.getD i.toNat default))=true then
      Option.map Sum.inr (
       some false)
     else
      some (.inl (IntKind.i64.wrap (i+1)))
    else none
   else none
  else
   Option.map Sum.inr (
    some true)
def lM(a:fI)(b:fI):Option Bool:=
 if((a.length:Int) != (b.length:Int))=true then
  some false
 else
  gI (qA a b) 0
instance Nm{a:fI}{b:fI}:iH (lM a b) fun rr=>lz Tryz.prog 12 [(gN 1 iD) a,(gN 1 iD) b] (bD rr):=⟨@fun rr h=>by
 delta lM at h;refine YO.jO (gv ?_);delta WD;refine iL ?_;refine iF h fun hc h=>?_
 refine jV h [4,5,11,12,13,14,15,16,17,18,19,20,21,22,23,24,25] (fun pp=>[(5,.d (iD pp))]) (fun pp=>[]) ?_;rintro i t1 h hb1;unfold qA at h;try dsimp only at h
 refine gv (iL ?_);exact od⟩
def XR:gR:=
 (.seq (.gz (sq 2 [bo 2 93 0]++sq 4 [.mv (.const (.slice none 0 0))])) (.seq (.seq (.gz (sq 5 [mv 1,fa 0 2,ld 6,ln 7,bn .lss 5 8,mv 9]++sg 10 true 11 [fa 0 2,ld 11,mv 1,ix 1 12 13,ld 14,ln 15,bi .gtr 16 0]++sq 18 [pa 10 17])) (.cond (t0 18) (.seq (.gz (sq 19 [fa 0 2,ld 19,mv 1,ix 1 20 21,ld 22,cf 27 [23]]++sq 4 [mv 24])) .ret) .skip)) (.seq (.gz (sq 25 [mv 1,.bin .sub (i0 (-1)) (t0 25),.mH 27 2 1 [(t0 26)]]++sq 4 [mv 27])) .ret)))
theorem ZU:lE Tryz.prog 94 XR 28 [.tmp 4]:=mf Tryz.func94 Tryz.ntmps94
def ql(s:fM)(i:Int):Option fI:=
 if(decide (i<(s.length:Int)))=true then
  if 0<=i/\i<(s.length:Int)then
   if(decide (0<((s.getD i.toNat default).length:Int)))=true then
    if 0<=i/\i<(s.length:Int)then
     (iX (s.getD i.toNat default)).bind fun r=>
     some r
    else none
   else
    some [(IntKind.i64.wrap ((-1)-i))]
  else none
 else
  some [(IntKind.i64.wrap ((-1)-i))]
instance Oj{s:fM}{i:Int}:iH (ql s i) fun rr=>lz Tryz.prog 94 [lP s,iD i] ((gN 1 iD) rr):=⟨@fun rr h=>by
 delta ql at h;refine ZU.jO (gv ?_);delta XR;refine iL ?_;refine iT h fun hc h=>?_
 refine kz h fun hp h=>?_
 refine iT h fun hc h=>?_
 refine kz h fun hp h=>?_
 refine mA [] [(3,24)] h fun r hr h=>?_
 exact od⟩
def TK:gR:=
 (.seq (.gz (sq 1 [bo 1 93 0,.alloc 2 93 [.sl 0 (some true) []]])) (.seq (.gz (sq 6 [.build [.sl 0 (some true) []] []]++sq 3 [.alloc 3 93 [.sl 0 (some true) []]]++s0 (sr 1 3 6))) (.seq (.seq (.gz (sq 4 [mi 0])) (.block 0 (.loop (.seq (.seq (.gz (sq 7 [mv 4,fa 0 1,ld 8,ln 9,bn .lss 7 10])) (.cond (t0 11) .skip (.exit 0))) (.seq (.block 1 (.seq (.gz (sq 14 [la 1 1,mv 4,cf 94 [14,15]]++sq 5 [mv 16])) (.seq (.seq (.gz (sq 17 [mv 5,ln 17,bi .eql 18 1,mv 19]++sg 20 true 21 [mv 5,.CY 1 (t0 21) (i0 0),ld 22,mv 4,.bin .sub (i0 (-1)) (t0 24),bn .eql 23 25]++sq 27 [pa 20 26])) (.cond (t0 27) (.gz (sq 28 [.mH 28 2 1 []]++sq 5 [mv 28])) .skip)) (.gz (sq 29 [fa 0 3,ld 29,mv 5,.mH 32 24 1 [(t0 31)],ap 33 24 1 24 30 32,fa 0 3]++s0 (sr 1 34 33)))))) (.gz (sq 12 [mv 4,bi .add 12 1]++sq 4 [mv 13]))))))) (.seq (.block 2 (.loop (.seq (.seq (.gz (sq 35 [fa 0 3,ld 35,ln 36,bi .gtr 37 0,mv 38]++sg 39 true 40 [fa 0 3,ld 40,fa 0 3,ld 42,ln 43,bi .sub 44 1,ix 1 41 45,ld 46,ln 47,bi .eql 48 0]++sq 50 [pa 39 49])) (.cond (t0 50) .skip (.exit 2))) (.block 3 (.gz (sq 51 [fa 0 3,ld 51,fa 0 3,ld 53,ln 54,bi .sub 55 1,.slc (t0 52) 1 none (some (t0 56)) none,fa 0 3]++s0 (sr 1 58 57))))))) (.seq (.gz (sq 59 [la 1 3]++s0 (sr 1 2 59))) .ret)))))
theorem Wg:lE Tryz.prog 121 TK 60 [.cell 2 1 true]:=mf Tryz.func121 Tryz.ntmps121
def uq:fM->Option (fM⊕fM)
 |out_1=>
  if(decide (0<(out_1.length:Int)))=true then
   if 0<=(IntKind.i64.wrap ((out_1.length:Int)-1))/\(IntKind.i64.wrap ((out_1.length:Int)-1))<(out_1.length:Int)then
    if(((out_1.getD (IntKind.i64.wrap ((out_1.length:Int)-1)).toNat default).length:Int)==0)=true then
     if 0<=(IntKind.i64.wrap ((out_1.length:Int)-1))/\(IntKind.i64.wrap ((out_1.length:Int)-1))<=(out_1.length:Int)then
      some (.inl (out_1.take (IntKind.i64.wrap ((out_1.length:Int)-1)).toNat))
     else none
    else
     Option.map Sum.inr (
      some out_1)
   else none
  else
   Option.map Sum.inr (
    some out_1)
def uo(s:fM):(Int×fM)->Option ((Int×fM)⊕fM)
 |(i,out)=>
  if(decide (i<(s.length:Int)))=true then
   (ql s i).bind fun r=>
   if((r.length:Int)==1)=true then
    if 0<=0/\0<(r.length:Int)then
     if((r.getD 0 default)==(IntKind.i64.wrap ((-1)-i)))=true then
      if(out.length+1)*24<=140737488355328 then
       some (.inl ((IntKind.i64.wrap (i+1)),(out++[[]])))
      else none
     else
      if(out.length+1)*24<=140737488355328 then
       some (.inl ((IntKind.i64.wrap (i+1)),(out++[r])))
      else none
    else none
   else
    if(out.length+1)*24<=140737488355328 then
     some (.inl ((IntKind.i64.wrap (i+1)),(out++[r])))
    else none
  else
   Option.map Sum.inr (
    gI (uq) out)
def rA(s:fM):Option fM:=
 gI (uo s) (0,[])
instance Ol{s:fM}:iH (rA s) fun rr=>lz Tryz.prog 121 [lP s] (lP rr):=⟨@fun rr h=>by
 delta rA at h;refine Wg.jO (gv ?_);delta TK;refine iL ?_;refine rZ h [4,5,7,8,9,10,11,12,13,14,15,16,17,18,19,20,21,22,23,24,25,26,27,28,29,30,31,32,33,34] (fun pp=>[(4,.d (iD pp.1))]) (fun pp=>[(1,.obj 93 [.d (gN 1 (gN 1 iD) s)]),(2,.obj 93 [.d (.sl 0 (some true) [])]),(3,.obj 93 [.own 1 33 (List.map (gN 1 iD) pp.2)]),(33,.tok 24 1 pp.2.length)]) ?_ ?_
 ·try dsimp only
  refine(iB.yb 3 0 33 24 1 rfl rfl rfl).trans ?_;exact wk
 rintro⟨i,out⟩ t1 h hb1;unfold uo at h;try dsimp only at h
 refine gv (iL ?_);refine it h (fun hc h=>?_) fun hc h=>?_
 ·refine rC h fun r hr h=>?_
  refine it h (fun hc h=>?_) fun hc h=>?_
  ·refine kz h fun hp h=>?_
   refine it h (fun hc h=>?_) fun hc h=>?_
   ·refine kz h fun hp h=>?_
    cases h;refine⟨_,rfl,?_⟩;refine(iB.drop 28 gu).trans ?_;refine(iB.drop 32 gu).trans ?_;exact wk
   refine kz h fun hp h=>?_
   cases h;refine⟨_,rfl,?_⟩;refine(iB.drop 32 gu).trans ?_;exact wk
  refine kz h fun hp h=>?_
  cases h;refine⟨_,rfl,?_⟩;refine(iB.drop 32 gu).trans ?_;exact wk
 replace h:=g_ h hb1;refine rZ h [35,36,37,38,39,40,41,42,43,44,45,46,47,48,49,50,51,52,53,54,55,56,57,58] (fun pp=>[]) (fun pp=>[(1,.obj 93 [.d (gN 1 (gN 1 iD) s)]),(2,.obj 93 [.d (.sl 0 (some true) [])]),(3,.obj 93 [.d (gN 1 (gN 1 iD) pp)])]) ?_ ?_
 ·try dsimp only
  refine(iB.drop 33 gu).trans ?_;exact wk
 rintro out_1 t1 h hb1;unfold uq at h;try dsimp only at h
 refine gv (iL ?_);exact od⟩
def TA:gR:=
 (.seq (.gz (sq 3 [bo 3 26 0]++sq 6 [.alloc 6 93 [.sl 0 (some true) []],mb false])) (.seq (.gz (sq 13 [.zy 13 24 1 24 [.sl 0 (some true) []] false (i0 24) (i0 24),.build [.sl 0 (some true) []] [(0,1,(t0 13))]]++sq 8 [.alloc 8 93 [.sl 0 (some true) []]]++s0 (sr 1 8 14))) (.seq (.gz (sq 9 [mi 0])) (.seq (.seq (.gz (sq 10 [mi 0])) (.block 0 (.loop (.seq (.seq (.gz (sq 15 [mv 10,mv 1,ln 16,bn .lss 15 17])) (.cond (t0 18) .skip (.exit 0))) (.seq (.block 1 (.seq (.seq (.gz (sq 21 [mv 9,mv 2,ln 22,bn .geq 21 23])) (.cond (t0 24) (.seq (.gz (sq 25 [.build [.sl 0 (some true) []] []]++s0 (sr 1 6 25)++sq 7 [mb false])) .ret) .skip)) (.seq (.seq (.gz (sq 26 [mv 1,mv 10,ix 1 26 27,ld 28,bi .geq 29 0])) (.cond (t0 30) (.seq (.seq (.draw (sq 31 [mv 1,mv 10,ix 1 31 32,ld 33,mv 2,mv 9,ix 1 35 36,ld 37,bn .neq 34 38]) [[],[],[0,1],[2],[],[],[4,5],[6],[3,7]]) (.cond (t0 39) (.seq (.gz (sq 40 [.build [.sl 0 (some true) []] []]++s0 (sr 1 6 40)++sq 7 [mb false])) .ret) .skip)) (.seq (.gz (sq 41 [mv 9,bi .add 41 1]++sq 9 [mv 42])) (.exit 1))) .skip)) (.seq (.gz (sq 43 [la 1 3,mv 2,mv 9,cf 53 [43,44,45]]++sq 11 [mv 46])) (.seq (.draw (sq 47 [fa 0 8,ld 47,mv 1,mv 10,ix 1 49 50,ld 51,.bin .sub (i0 (-1)) (t0 52),ix 1 48 53,ld 54]++sq 12 [mv 55]) [[],[0],[],[],[2,3],[4],[5],[1,6],[7],[8,0,1,2,3,4,5,6,7,8]]) (.seq (.seq (.gz (sq 56 [mv 12,ln 56,bi .gtr 57 0,mv 58]++sg 59 true 60 [mv 12,mv 11,cf 12 [60,61],nt 62]++sq 64 [pa 59 63])) (.cond (t0 64) (.seq (.gz (sq 65 [.build [.sl 0 (some true) []] []]++s0 (sr 1 6 65)++sq 7 [mb false])) .ret) .skip)) (.seq (.draw (sq 66 [fa 0 8,ld 66,mv 1,mv 10,ix 1 68 69,ld 70,.bin .sub (i0 (-1)) (t0 71),mv 11,ix 1 67 72]++s0 (sr 1 74 73)) [[],[0],[],[],[2,3],[4],[5],[],[1,6,0,1,2,3,4,5,6,7],[8,7,0,1,2,3,4,5,6,7]]) (.gz (sq 75 [mv 9,mv 11,ln 76,bn .add 75 77]++sq 9 [mv 78]))))))))) (.gz (sq 19 [mv 10,bi .add 19 1]++sq 10 [mv 20]))))))) (.seq (.gz (sq 79 [la 1 8,cf 121 [79]]++s0 (sr 1 6 80)++sq 7 [mb true])) .ret)))))
theorem V6:lE Tryz.prog 107 TA 81 [.cell 6 1 true,.tmp 7]:=mf Tryz.func107 Tryz.ntmps107
def ur(sig:fI)(p:fI)(t:fI):(Int×Int×fM)->Option ((Int×Int×fM)⊕gn)
 |(k,i,l13)=>
  if(decide (i<(p.length:Int)))=true then
   if(decide ((t.length:Int)<=k))=true then
    Option.map Sum.inr (
     some ([],false))
   else
    if 0<=i/\i<(p.length:Int)then
     if(decide (0<=(p.getD i.toNat default)))=true then
      if 0<=i/\i<(p.length:Int)then
       if 0<=k/\k<(t.length:Int)then
        if((p.getD i.toNat default) != (t.getD k.toNat default))=true then
         Option.map Sum.inr (
          some ([],false))
        else
         some (.inl ((IntKind.i64.wrap (k+1)),(IntKind.i64.wrap (i+1)),l13))
       else none
      else none
     else
      (kR sig t k).bind fun r=>
      if 0<=i/\i<(p.length:Int)then
       if 0<=(IntKind.i64.wrap ((-1)-(p.getD i.toNat default)))/\(IntKind.i64.wrap ((-1)-(p.getD i.toNat default)))<(24:Int)/\(IntKind.i64.wrap ((-1)-(p.getD i.toNat default)))<(l13.length:Int)then
        if(decide (0<((l13.getD (IntKind.i64.wrap ((-1)-(p.getD i.toNat default))).toNat default).length:Int)))=true then
         (lM (l13.getD (IntKind.i64.wrap ((-1)-(p.getD i.toNat default))).toNat default) r).bind fun r_1=>
         if r_1=true then
          if 0<=i/\i<(p.length:Int)then
           if 0<=(IntKind.i64.wrap ((-1)-(p.getD i.toNat default)))/\(IntKind.i64.wrap ((-1)-(p.getD i.toNat default)))<(24:Int)/\(IntKind.i64.wrap ((-1)-(p.getD i.toNat default)))<(l13.length:Int)then
            some (.inl ((IntKind.i64.wrap (k+(r.length:Int))),(IntKind.i64.wrap (i+1)),(l13.set (IntKind.i64.wrap ((-1)-(p.getD i.toNat default))).toNat r)))
           else none
          else none
         else
          Option.map Sum.inr (
           some ([],false))
        else
         if 0<=i/\i<(p.length:Int)then
          if 0<=(IntKind.i64.wrap ((-1)-(p.getD i.toNat default)))/\(IntKind.i64.wrap ((-1)-(p.getD i.toNat default)))<(24:Int)/\(IntKind.i64.wrap ((-1)-(p.getD i.toNat default)))<(l13.length:Int)then
           some (.inl ((IntKind.i64.wrap (k+(r.length:Int))),(IntKind.i64.wrap (i+1)),(l13.set (IntKind.i64.wrap ((-1)-(p.getD i.toNat default))).toNat r)))
          else none
         else none
       else none
      else none
    else none
  else
   Option.map Sum.inr (
    if l13.length=24 then
     (rA l13).bind fun r_2=>
     some (r_2,true)
    else none)
def rB(sig:fI)(p:fI)(t:fI):Option gn:=
 gI (ur sig p t) (0,0,(List.replicate 24 []))
instance Om{sig:fI}{p:fI}{t:fI}:iH (rB sig p t) fun rr=>ki Tryz.prog 107 [iZ sig,(gN 1 iD) p,(gN 1 iD) t] [lP rr.1,bD rr.2]:=⟨@fun rr h=>by
 delta rB at h;refine V6.mK (gv ?_);delta TA;refine iL ?_;refine Cy ?_;refine jV h [7,9,10,11,12,15,16,17,18,19,20,21,22,23,24,25,26,27,28,29,30,31,32,33,34,35,36,37,38,39,40,41,42,43,44,45,46,47,48,49,50,51,52,53,54,55,56,57,58,59,60,61,62,63,64,65,66,67,68,69,70,71,72,73,74,75,76,77,78] (fun pp=>[(9,.d (iD pp.1)),(10,.d (iD pp.2.1))]) (fun pp=>[(3,.obj 26 [.d (gN 1 iD sig)]),(6,.obj 93 [.d (.sl 0 (some true) [])]),(8,.obj 93 [.tS 1 13 0 24]),(13,.obj 24 (List.map (aD (gN 1 iD)) pp.2.2))]) ?_;rintro⟨k,i,l13⟩ t1 h hb1;unfold ur at h;try dsimp only at h
 refine gv (iL ?_);refine iF h fun hc h=>?_
 replace h:=g_ h hb1;refine kz h fun hp h=>?_
 refine EA 13 (gN 1 iD) l13 gu rfl (fun _=>rfl) (iL ?_);refine rC h fun r_2 hr_2 h=>?_
 exact od⟩
def XN:gR:=
 (.seq (.gz (sq 1 [bo 1 93 0,.mv (.const .nilFunc)])) (.seq (.gz (sq 3 [.DS 113 [] [(t0 1)]]++sq 2 [mv 3])) .ret))
theorem ZQ:lE Tryz.prog 90 XN 4 [.tmp 2]:=mf Tryz.func90 Tryz.ntmps90
def pX(s:fM):Option fM:=
 some s
instance IU{s:fM}:iH (pX s) fun rr=>hY Tryz.prog 90 [.d (.agg [gN 1 (gN 1 iD) s])] [] 0 fun xx ss=>xx=.fn 113 [] [.ptr 1 0]/\ss=[(1,.obj 93 [.d (gN 1 (gN 1 iD) rr)])]:=⟨@fun rr h=>by
 delta pX at h;refine ZQ.nN (gv ?_);delta XN;refine iL ?_;exact od⟩
def TE:gR:=
 (.seq (.gz (sq 2 [bo 2 93 0]++sq 4 [.mv (.const (.slice none 0 0))])) (.seq (.seq (.gz (sq 5 [mv 1,fa 0 2,ld 6,ln 7,bn .geq 5 8,mv 9]++sg 10 false 11 [fa 0 2,ld 11,mv 1,ix 1 12 13,ld 14,ln 15,bi .eql 16 0]++sq 18 [po 10 17])) (.cond (t0 18) (.seq (.gz (sq 4 [.mv (.const (.slice none 0 0))])) .ret) .skip)) (.seq (.gz (sq 19 [fa 0 2,ld 19,mv 1,ix 1 20 21,ld 22]++sq 4 [mv 23])) .ret)))
theorem V_:lE Tryz.prog 114 TE 24 [.tmp 4]:=mf Tryz.func114 Tryz.ntmps114
def oE(s:fM)(i:Int):Option fI:=
 if(decide ((s.length:Int)<=i))=true then
  some []
 else
  if 0<=i/\i<(s.length:Int)then
   if(((s.getD i.toNat default).length:Int)==0)=true then
    some []
   else
    if 0<=i/\i<(s.length:Int)then
     if 0<(s.getD i.toNat default).length then
      some (s.getD i.toNat default)
     else none
    else none
  else none
instance Jc{s:fM}{i:Int}:iH (oE s i) fun rr=>lz Tryz.prog 114 [lP s,iD i] ((Ad 1 iD) rr):=⟨@fun rr h=>by
 delta oE at h;refine V_.jO (gv ?_);delta TE;refine iL ?_;refine iF h fun hc h=>?_
 refine kz h fun hp h=>?_
 refine iF h fun hc h=>?_
 refine kz h fun hp h=>?_
 refine kz h fun hp h=>?_
 cases h;exact(K8 gu).2 trivial⟩
def TD:gR:=
 (.seq (.gz (sq 3 [.mv (.const (.slice none 0 0))])) (.seq (.seq (.gz (sq 4 [mv 0,bi .geq 4 0])) (.cond (t0 5) (.seq (.gz (sq 3 [.mv (.const (.slice none 0 0))])) .ret) .skip)) (.seq (.gz (sq 6 [la 1 1,mv 0,.bin .sub (i0 (-1)) (t0 7),cf 114 [6,8]]++sq 3 [mv 9])) .ret)))
theorem V9:lE Tryz.prog 113 TD 10 [.tmp 3]:=mf Tryz.func113 Tryz.ntmps113
def oR(n:Int)(o0:fM):Option fI:=
 if(decide (0<=n))=true then
  some []
 else
  (oE o0 (IntKind.i64.wrap ((-1)-n))).bind fun r=>
  some r
instance GZ{n:Int}{o0:fM}:iH (oR n o0) fun rr=>hY Tryz.prog 113 [.d (iD n),.ptr 0 0] [(0,.obj 93 [.d (gN 1 (gN 1 iD) o0)])] 1 fun xx ss=>xx=.d (Ad 1 iD rr)/\ss=[(0,.obj 93 [.d (gN 1 (gN 1 iD) o0)])]:=⟨@fun rr h=>by
 delta oR at h;refine V9.nN (gv ?_);delta TD;refine iL ?_;exact od⟩
def Xa:gR:=
 (.seq (.gz (sq 2 [bo 2 93 0]++sq 4 [.mv (.const (.slice none 0 0)),mb false])) (.seq (.gz (sq 11 [la 1 2,cf 90 [11]]++sq 6 [mv 12])) (.seq (.gz (sq 13 [mv 1,ln 13,.zy 15 2 1 8 [.lit (.int .i64 0)] true (i0 0) (t0 14)]++sq 7 [mv 15])) (.seq (.seq (.gz (sq 16 [mv 1,ln 16,mi 0])) (.block 0 (.loop (.seq (.gz (sq 19 [bn .lss 18 17])) (.seq (.cond (t0 19) .skip (.exit 0)) (.seq (.block 1 (.seq (.gz (sq 20 [ix 1 16 18,ld 20]++sq 9 [mv 21])) (.seq (.seq (.gz (sq 22 [mv 6,mv 9,.zk (t0 22) [(t0 23)]]++sq 10 [mv 24])) (.seq (.gz (sq 25 [mv 10,.xT false (t0 25)])) (.cond (t0 26) (.gz (sq 27 [mv 7,mv 9,.mH 29 2 1 [(t0 28)],ap 30 2 1 8 27 29]++sq 7 [mv 30])) (.gz (sq 31 [mv 7,mv 10,ap 33 2 1 8 31 32]++sq 7 [mv 33]))))) (.seq (.gz (sq 34 [mv 7,ln 34,bi .gtr 35 60])) (.cond (t0 36) (.seq (.gz (sq 4 [.mv (.const (.slice none 0 0)),mb false])) .ret) .skip))))) (.gz (sq 37 [bi .add 18 1]++sq 18 [mv 37])))))))) (.seq (.gz (sq 38 [mv 7]++sq 4 [mv 38,mb true])) .ret)))))
theorem Zj:lE Tryz.prog 48 Xa 39 [.tmp 4,.tmp 5]:=mf Tryz.func48 Tryz.ntmps48
def wC(t:fI)(r:fM):fO->Option (fO⊕fN)
 |(out,v18)=>
  if(decide (v18<(t.length:Int)))=true then
   if 0<=v18/\v18<(t.length:Int)then
    (oR (t.getD v18.toNat default) r).bind fun r_1=>
    if r_1.isEmpty=true then
     if(out.length+1)*8<=140737488355328 then
      if(decide (60<((out++[(t.getD v18.toNat default)]).length:Int)))=true then
       Option.map Sum.inr (
        some ([],false))
      else
       some (.inl ((out++[(t.getD v18.toNat default)]),(IntKind.i64.wrap (v18+1))))
     else none
    else
     if(out.length+r_1.length)*8<=140737488355328 then
      if(decide (60<((out++r_1).length:Int)))=true then
       Option.map Sum.inr (
        some ([],false))
      else
       some (.inl ((out++r_1),(IntKind.i64.wrap (v18+1))))
     else none
   else none
  else
   Option.map Sum.inr (
    some (out,true))
def m_(s:fM)(t:fI):Option fN:=
 (pX s).bind fun r=>
 if 0<=(t.length:Int)/\8*(t.length:Int)<=281474976710656 then
  gI (wC t r) ([],0)
 else none
instance Tb{s:fM}{t:fI}:iH (m_ s t) fun rr=>ki Tryz.prog 48 [lP s,(gN 1 iD) t] [(gN 1 iD) rr.1,bD rr.2]:=⟨@fun rr h=>by
 delta m_ at h;refine Zj.mK (gv ?_);delta Xa;refine iL ?_;refine mA [] [(1,12)] h fun r hr h=>?_
 refine kz h fun hp h=>?_
 refine jV h [4,5,7,9,10,18,19,20,21,22,23,24,25,26,27,28,29,30,31,32,33,34,35,36,37] (fun pp=>[(7,.own 1 15 (List.map iD pp.1)),(18,.d (iD pp.2))]) (fun pp=>[(2,.obj 93 [.d (gN 1 (gN 1 iD) s)]),(12,.obj 93 [.d (gN 1 (gN 1 iD) r)]),(15,.tok 2 1 pp.1.length)]) ?_;rintro⟨out,v18⟩ t1 h hb1;unfold wC at h;try dsimp only at h
 refine gv (iL ?_);refine iT h fun hc h=>?_
 refine kz h fun hp h=>?_
 refine uD (by kernel_rfl) ?_;refine mA [(0,12)] [] h fun r_1 hr_1 h=>?_
 refine iT h fun hc h=>?_
 refine kz h fun hp h=>?_
 refine iF h fun hc h=>?_
 cases h;refine⟨_,rfl,?_⟩;refine(iB.drop 29 gu).trans ?_;exact wk⟩
def Xf:gR:=
 (.seq (.gz (sq 2 [bo 2 93 0]++sq 4 [.mv (.const (.slice none 0 0)),mb false])) (.seq (.gz (sq 8 [.mH 8 2 1 []]++sq 6 [mv 8])) (.seq (.seq (.gz (sq 7 [mi 0])) (.block 0 (.loop (.seq (.seq (.gz (sq 9 [mv 7,mv 1,ln 10,bn .lss 9 11])) (.cond (t0 12) .skip (.exit 0))) (.seq (.block 1 (.seq (.seq (.gz (sq 15 [mv 1,mv 7,ix 1 15 16,ld 17,bi .lss 18 0])) (.cond (t0 19) (.draw (sq 20 [mv 6,la 1 2,mv 1,mv 7,ix 1 22 23,ld 24,.bin .sub (i0 (-1)) (t0 25),cf 94 [21,26],ap 28 2 1 8 20 27]++sq 6 [mv 28]) [[],[],[],[],[2,3],[4],[5],[1,6],[0,7,7],[8,8,0,1,2,3,4,5,6,7,8]]) (.gz (sq 29 [mv 6,mv 1,mv 7,ix 1 30 31,ld 32,.mH 34 2 1 [(t0 33)],ap 35 2 1 8 29 34]++sq 6 [mv 35])))) (.seq (.gz (sq 36 [mv 6,ln 36,bi .gtr 37 60])) (.cond (t0 38) (.seq (.gz (sq 39 [.mH 39 2 1 []]++sq 4 [mv 39,mb false])) .ret) .skip)))) (.gz (sq 13 [mv 7,bi .add 13 1]++sq 7 [mv 14]))))))) (.seq (.gz (sq 40 [mv 6]++sq 4 [mv 40,mb true])) .ret))))
theorem Zn:lE Tryz.prog 54 Xf 41 [.tmp 4,.tmp 5]:=mf Tryz.func54 Tryz.ntmps54
def tc(s:fM)(t:fI):fO->Option (fO⊕fN)
 |(out,i)=>
  if(decide (i<(t.length:Int)))=true then
   if 0<=i/\i<(t.length:Int)then
    if(decide ((t.getD i.toNat default)<0))=true then
     if 0<=i/\i<(t.length:Int)then
      (ql s (IntKind.i64.wrap ((-1)-(t.getD i.toNat default)))).bind fun r=>
      if(out.length+r.length)*8<=140737488355328 then
       if(decide (60<((out++r).length:Int)))=true then
        Option.map Sum.inr (
         some ([],false))
       else
        some (.inl ((out++r),(IntKind.i64.wrap (i+1))))
      else none
     else none
    else
     if 0<=i/\i<(t.length:Int)then
      if(out.length+1)*8<=140737488355328 then
       if(decide (60<((out++[(t.getD i.toNat default)]).length:Int)))=true then
        Option.map Sum.inr (
         some ([],false))
       else
        some (.inl ((out++[(t.getD i.toNat default)]),(IntKind.i64.wrap (i+1))))
      else none
     else none
   else none
  else
   Option.map Sum.inr (
    some (out,true))
def ku(s:fM)(t:fI):Option fN:=
 gI (tc s t) ([],0)
instance Nu{s:fM}{t:fI}:iH (ku s t) fun rr=>ki Tryz.prog 54 [lP s,(gN 1 iD) t] [(gN 1 iD) rr.1,bD rr.2]:=⟨@fun rr h=>by
 delta ku at h;refine Zn.mK (gv ?_);delta Xf;refine iL ?_;refine jV h [4,5,6,7,9,10,11,12,13,14,15,16,17,18,19,20,21,22,23,24,25,26,27,28,29,30,31,32,33,34,35,36,37,38,39] (fun pp=>[(6,.own 1 8 (List.map iD pp.1)),(7,.d (iD pp.2))]) (fun pp=>[(2,.obj 93 [.d (gN 1 (gN 1 iD) s)]),(8,.tok 2 1 pp.1.length)]) ?_;rintro⟨out,i⟩ t1 h hb1;unfold tc at h;try dsimp only at h
 refine gv (iL ?_);refine iT h fun hc h=>?_
 refine kz h fun hp h=>?_
 refine iF h fun hc h=>?_
 refine kz h fun hp h=>?_
 refine kz h fun hp h=>?_
 refine iF h fun hc h=>?_
 cases h;refine⟨_,rfl,?_⟩;refine(iB.drop 34 gu).trans ?_;exact wk⟩
def kO(x:fK):D:=.agg [iD x.1,iD x.2.1,(gN 1 iD) x.2.2]
def jC(x:fX):D:=.agg [(gN 1 iD) x.1,(gN 3 kO) x.2]
instance:uK kO 3:=⟨fun _=>rfl⟩
instance:uK jC 2:=⟨fun _=>rfl⟩
attribute [go_sem] kO jC
def WZ:gR:=
 (.seq (.gz (sq 2 [bo 2 41 0]++sq 4 [mb false])) (.seq (.gz (sq 5 [la 2 2,cf 13 [5],mv 6]++sg 7 true 8 [fa 0 2,la 1 8,mv 1,cf 42 [9,10]]++sq 12 [pa 7 11]++sq 4 [mv 12])) .ret))
theorem Y8:lE Tryz.prog 34 WZ 13 [.tmp 4]:=mf Tryz.func34 Tryz.ntmps34
def qn(sys:fW)(t:fI):Option Bool:=
 (nc sys).bind fun r=>
 if r=true then
  (jE sys.1 t).bind fun r_1=>
  some r_1
 else
  some false
instance On{sys:fW}{t:fI}:iH (qn sys t) fun rr=>lz Tryz.prog 34 [jg sys,(gN 1 iD) t] (bD rr):=⟨@fun rr h=>by
 delta qn at h;refine Y8.jO (gv ?_);delta WZ;refine iL ?_;exact od⟩
def WN:gR:=
 (.seq (.gz (sq 4 [mb false])) (.seq (.gz (sq 5 [mv 1,mv 0,ln 6,bi .sub 7 1,.ji 22 [(t0 5),(i0 0),(t0 8)]]++sq 4 [mv 9])) .ret))
theorem YX:lE Tryz.prog 21 WN 10 [.tmp 4]:=mf Tryz.func21 Tryz.ntmps21
def mR(t:fI)(iz:Int):Option Bool:=
 (kX iz 0 (IntKind.i64.wrap ((t.length:Int)-1))).bind fun r=>
 some r
instance Oc{t:fI}{iz:Int}:iH (mR t iz) fun rr=>lz Tryz.prog 21 [(gN 1 iD) t,iD iz] (bD rr):=⟨@fun rr h=>by
 delta mR at h;refine YX.jO (gv ?_);delta WN;refine iL ?_;exact od⟩
def Xg:gR:=
 (.seq (.gz (sq 4 [bo 4 26 0]++sq 8 [.mv (.const (.slice none 0 0)),mb false])) (.seq (.gz (sq 11 [mv 1,mv 2,.slc (t0 11) 1 none (some (t0 12)) none,cf 27 [13],mv 3,ap 16 2 1 8 14 15]++sq 10 [mv 16])) (.seq (.gz (sq 17 [mv 10,mv 1,la 1 4,mv 1,mv 2,cf 83 [19,20,21],.slc (t0 18) 1 (some (t0 22)) none none,ap 24 2 1 8 17 23]++sq 10 [mv 24])) (.seq (.seq (.gz (sq 25 [mv 10,ln 25,bi .gtr 26 60])) (.cond (t0 27) (.seq (.gz (sq 28 [.mH 28 2 1 []]++sq 8 [mv 28,mb false])) .ret) .skip)) (.seq (.gz (sq 29 [mv 10]++sq 8 [mv 29,mb true])) .ret)))))
theorem Zo:lE Tryz.prog 55 Xg 30 [.tmp 8,.tmp 9]:=mf Tryz.func55 Tryz.ntmps55
def qD(sig:fI)(t:fI)(iz:Int)(u:fI):Option fN:=
 if 0<=iz/\iz<=(t.length:Int)then
  (iX (t.take iz.toNat)).bind fun r=>
  if(r.length+u.length)*8<=140737488355328 then
   (lU sig t iz).bind fun r_1=>
   if 0<=r_1/\r_1<=(t.length:Int)then
    if((r++u).length+(t.drop r_1.toNat).length)*8<=140737488355328 then
     if(decide (60<(((r++u)++(t.drop r_1.toNat)).length:Int)))=true then
      some ([],false)
     else
      some (((r++u)++(t.drop r_1.toNat)),true)
    else none
   else none
  else none
 else none
instance RC{sig:fI}{t:fI}{iz:Int}{u:fI}:iH (qD sig t iz u) fun rr=>ki Tryz.prog 55 [iZ sig,(gN 1 iD) t,iD iz,(gN 1 iD) u] [(gN 1 iD) rr.1,bD rr.2]:=⟨@fun rr h=>by
 delta qD at h;refine Zo.mK (gv ?_);delta Xg;refine iL ?_;refine kz h fun hp h=>?_
 refine mA [] [(3,14)] h fun r hr h=>?_
 exact od⟩
def XC:gR:=
 (.seq (.gz (sq 4 [bo 4 41 0]++sq 8 [.mv (.const (.slice none 0 0)),mb false])) (.seq (.gz (sq 15 [fa 1 4,ld 15,mv 3,ix 2 16 17,la 2 18]++sq 10 [.alloc 10 68 [.sl 0 (some true) [],.sl 0 (some true) []]]++s0 (sr 2 10 19))) (.seq (.draw (sq 21 [fa 0 4,la 1 21,fa 0 10,ld 23,fa 0 4,la 1 25,mv 1,mv 2,cf 53 [26,27,28],cf 107 [22,24,29]]++sq 20 [mv 30]++sq 31 [ex 20 0,ex 20 1]++sq 11 [.alloc 11 93 [.sl 0 (some true) []]]++s0 (sr 1 11 31)++sq 12 [mv 32]) [[],[0],[],[2],[],[4],[],[],[5,6,7],[1,3,8,8],[9],[10],[10],[],[13,11,9,0,1,2,3,4,5,6,7,8,9,10,11,13],[12,14,0,1,2,3,4,5,6,7,8,9,10,11,12,13,14]]) (.seq (.seq (.gz (sq 33 [mv 12,nt 33])) (.cond (t0 34) (.seq (.gz (sq 35 [.mH 35 2 1 []]++sq 8 [mv 35,mb false])) .ret) .skip)) (.seq (.gz (sq 37 [la 1 11,fa 1 10,ld 38,cf 54 [37,39]]++sq 36 [mv 40]++sq 41 [ex 36 0,ex 36 1]++sq 13 [mv 41,mv 42])) (.seq (.seq (.gz (sq 43 [mv 14,nt 43])) (.cond (t0 44) (.seq (.gz (sq 45 [.mH 45 2 1 []]++sq 8 [mv 45,mb false])) .ret) .skip)) (.seq (.gz (sq 46 [fa 0 4,la 1 46,mv 1,mv 2,mv 13,cf 55 [47,48,49,50],ex 51 0,ex 51 1]++sq 8 [mv 52,mv 53])) .ret)))))))
theorem ZH:lE Tryz.prog 77 XC 54 [.tmp 8,.tmp 9]:=mf Tryz.func77 Tryz.ntmps77
def qT(sys:fW)(t:fI)(iz:Int)(rule:Int):Option fN:=
 if 0<=rule/\rule<(sys.2.length:Int)then
  (kR sys.1 t iz).bind fun r=>
  (rB sys.1 ((sys.2.getD rule.toNat default).1) r).bind fun r_1=>
  if r_1.2=true then
   (ku r_1.1 ((sys.2.getD rule.toNat default).2)).bind fun r_2=>
   if r_2.2=true then
    (qD sys.1 t iz r_2.1).bind fun r_3=>
    some r_3
   else
    some ([],false)
  else
   some ([],false)
 else none
instance QX{sys:fW}{t:fI}{iz:Int}{rule:Int}:iH (qT sys t iz rule) fun rr=>ki Tryz.prog 77 [jg sys,(gN 1 iD) t,iD iz,iD rule] [(gN 1 iD) rr.1,bD rr.2]:=⟨@fun rr h=>by
 delta qT at h;refine ZH.mK (gv ?_);delta XC;refine iL ?_;exact od⟩
def W0:gR:=
 (.seq (.gz (sq 4 [bo 4 41 0]++sq 8 [.mv (.const (.slice none 0 0)),mb false])) (.seq (.seq (.gz (sq 10 [la 2 4,mv 1,cf 34 [10,11],nt 12,mv 13]++sg 14 false 15 [mv 1,mv 2,cf 21 [15,16],nt 17]++sq 19 [po 14 18,mv 19]++sg 20 false 21 [mv 3,fa 1 4,ld 22,ln 23,bi .sub 24 1,.ji 22 [(t0 21),(i0 0),(t0 25)],nt 26]++sq 28 [po 20 27])) (.cond (t0 28) (.seq (.gz (sq 29 [.mH 29 2 1 []]++sq 8 [mv 29,mb false])) .ret) .skip)) (.seq (.gz (sq 30 [la 2 4,mv 1,mv 2,mv 3,cf 77 [30,31,32,33],ex 34 0,ex 34 1]++sq 8 [mv 35,mv 36])) .ret)))
theorem Y9:lE Tryz.prog 35 W0 37 [.tmp 8,.tmp 9]:=mf Tryz.func35 Tryz.ntmps35
def sG(sys:fW)(t:fI)(iz:Int)(rule:Int):Option fN:=
 (qn sys t).bind fun r=>
 if r=true then
  (mR t iz).bind fun r_1=>
  if r_1=true then
   (kX rule 0 (IntKind.i64.wrap ((sys.2.length:Int)-1))).bind fun r_2=>
   if r_2=true then
    (qT sys t iz rule).bind fun r_3=>
    some r_3
   else
    some ([],false)
  else
   some ([],false)
 else
  some ([],false)
instance QL{sys:fW}{t:fI}{iz:Int}{rule:Int}:iH (sG sys t iz rule) fun rr=>ki Tryz.prog 35 [jg sys,(gN 1 iD) t,iD iz,iD rule] [(gN 1 iD) rr.1,bD rr.2]:=⟨@fun rr h=>by
 delta sG at h;refine Y9.mK (gv ?_);delta W0;refine iL ?_;exact od⟩
def WG:gR:=
 (.seq (.gz (sq 2 [bo 2 41 0,bo 3 36 1,mb false])) (.seq (.seq (.gz (sq 9 [la 2 2,fa 0 3,ld 10,cf 34 [9,11],nt 12,mv 13]++sg 14 false 15 [fa 1 3,ld 15,ln 16,bi .gtr 17 60]++sq 19 [po 14 18])) (.cond (t0 19) (.seq (.gz (sq 4 [mb false])) .ret) .skip)) (.seq (.gz (sq 20 [fa 0 3,ld 20]++sq 5 [mv 21])) (.seq (.seq (.gz (sq 6 [mi 0])) (.block 0 (.loop (.seq (.seq (.gz (sq 22 [mv 6,fa 1 3,ld 23,ln 24,bn .lss 22 25])) (.cond (t0 26) .skip (.exit 0))) (.seq (.block 1 (.seq (.draw (sq 30 [la 2 2,mv 5,fa 1 3,ld 32,mv 6,ix 3 33 34,fa 0 35,ld 36,fa 1 3,ld 38,mv 6,ix 3 39 40,fa 1 41,ld 42,cf 35 [30,31,37,43]]++sq 29 [mv 44]++sq 45 [ex 29 0,ex 29 1]++sq 7 [mv 45,mv 46]) [[],[],[],[2],[],[3,4],[5],[6],[],[8],[],[9,10],[11],[12],[0,1,7,13],[14],[15],[15],[16,14,0,1,2,3,4,5,6,7,8,9,10,11,12,13,14,15,16],[17,18,0,1,2,3,4,5,6,7,8,9,10,11,12,13,14,15,16,17,18]]) (.seq (.seq (.gz (sq 47 [mv 8,nt 47,mv 48]++sg 49 false 50 [mv 7,fa 1 3,ld 51,mv 6,ix 3 52 53,fa 2 54,ld 55,cf 12 [50,56],nt 57]++sq 59 [po 49 58])) (.cond (t0 59) (.seq (.gz (sq 4 [mb false])) .ret) .skip)) (.gz (sq 60 [mv 7]++sq 5 [mv 60]))))) (.gz (sq 27 [mv 6,bi .add 27 1]++sq 6 [mv 28]))))))) (.seq (.gz (sq 4 [mb true])) .ret)))))
theorem YQ:lE Tryz.prog 14 WG 61 [.tmp 4]:=mf Tryz.func14 Tryz.ntmps14
def rT(sys:fW)(w:fX):fO->Option (fO⊕Bool)
 |(now,i)=>
  if(decide (i<(w.2.length:Int)))=true then
   if 0<=i/\i<(w.2.length:Int)then
    if 0<=i/\i<(w.2.length:Int)then
     (sG sys now ((w.2.getD i.toNat default).1) ((w.2.getD i.toNat default).2.1)).bind fun r_1=>
     if r_1.2=true then
      if 0<=i/\i<(w.2.length:Int)then
       (lM r_1.1 ((w.2.getD i.toNat default).2.2)).bind fun r_2=>
       if r_2=true then
        some (.inl (r_1.1,(IntKind.i64.wrap (i+1))))
       else
        Option.map Sum.inr (
         some false)
      else none
     else
      Option.map Sum.inr (
       some false)
    else none
   else none
  else
   Option.map Sum.inr (
    some true)
def qR(sys:fW)(w:fX):Option Bool:=
 (qn sys w.1).bind fun r=>
 if r=true then
  if(decide (60<(w.2.length:Int)))=true then
   some false
  else
   gI (rT sys w) (w.1,0)
 else
  some false
instance QN{sys:fW}{w:fX}:iH (qR sys w) fun rr=>lz Tryz.prog 14 [jg sys,jC w] (bD rr):=⟨@fun rr h=>by
 delta qR at h;refine YQ.jO (gv ?_);delta WG;refine iL ?_;refine rC h fun r hr h=>?_
 refine iT h fun hc h=>?_
 refine iF h fun hc h=>?_
 refine jV h [4,5,6,7,8,22,23,24,25,26,27,28,29,30,31,32,33,34,35,36,37,38,39,40,41,42,43,44,45,46,47,48,49,50,51,52,53,54,55,56,57,58,59,60] (fun pp=>[(5,.d (gN 1 iD pp.1)),(6,.d (iD pp.2))]) (fun pp=>[(2,.obj 41 [.d (gN 1 iD sys.1),.d (gN 2 jL sys.2)]),(3,.obj 36 [.d (gN 1 iD w.1),.d (gN 3 kO w.2)])]) ?_;rintro⟨now,i⟩ t1 h hb1;unfold rT at h;try dsimp only at h
 refine gv (iL ?_);exact od⟩
def W1:gR:=
 (.seq (.gz (sq 1 [bo 1 36 0,.mv (.const (.slice none 0 0))])) (.seq (.seq (.gz (sq 3 [fa 1 1,ld 3,ln 4,bi .eql 5 0])) (.cond (t0 6) (.seq (.gz (sq 7 [fa 0 1,ld 7,cf 27 [8]]++sq 2 [mv 9])) .ret) .skip)) (.seq (.gz (sq 10 [fa 1 1,ld 10,fa 1 1,ld 12,ln 13,bi .sub 14 1,ix 3 11 15,fa 2 16,ld 17,cf 27 [18]]++sq 2 [mv 19])) .ret)))
theorem Y_:lE Tryz.prog 36 W1 20 [.tmp 2]:=mf Tryz.func36 Tryz.ntmps36
def qE(w:fX):Option fI:=
 if((w.2.length:Int)==0)=true then
  (iX w.1).bind fun r=>
  some r
 else
  if 0<=(IntKind.i64.wrap ((w.2.length:Int)-1))/\(IntKind.i64.wrap ((w.2.length:Int)-1))<(w.2.length:Int)then
   (iX ((w.2.getD (IntKind.i64.wrap ((w.2.length:Int)-1)).toNat default).2.2)).bind fun r_1=>
   some r_1
  else none
instance RD{w:fX}:iH (qE w) fun rr=>lz Tryz.prog 36 [jC w] ((gN 1 iD) rr):=⟨@fun rr h=>by
 delta qE at h;refine Y_.jO (gv ?_);delta W1;refine iL ?_;refine it h (fun hc h=>?_) fun hc h=>?_
 ·refine mA [] [(3,9)] h fun r hr h=>?_
  exact od
 refine kz h fun hp h=>?_
 refine mA [] [(3,19)] h fun r_1 hr_1 h=>?_
 exact od⟩
def WH:gR:=
 (.seq (.gz (sq 2 [bo 2 41 0,bo 3 36 1,.mv (.const (.slice none 0 0))])) (.seq (.seq (.gz (sq 5 [la 2 2,la 2 3,cf 14 [5,6],nt 7])) (.cond (t0 8) (.seq (.gz (sq 9 [.mH 9 2 1 []]++sq 4 [mv 9])) .ret) .skip)) (.seq (.gz (sq 10 [la 2 3,cf 36 [10]]++sq 4 [mv 11])) .ret)))
theorem YR:lE Tryz.prog 15 WH 12 [.tmp 4]:=mf Tryz.func15 Tryz.ntmps15
def ry(sys:fW)(w:fX):Option fI:=
 (qR sys w).bind fun r=>
 if r=true then
  (qE w).bind fun r_1=>
  some r_1
 else
  some []
instance N9{sys:fW}{w:fX}:iH (ry sys w) fun rr=>lz Tryz.prog 15 [jg sys,jC w] ((gN 1 iD) rr):=⟨@fun rr h=>by
 delta ry at h;refine YR.jO (gv ?_);delta WH;refine iL ?_;exact od⟩
end Go.Proofs.YtelhemjlfkbkeaaGreat
