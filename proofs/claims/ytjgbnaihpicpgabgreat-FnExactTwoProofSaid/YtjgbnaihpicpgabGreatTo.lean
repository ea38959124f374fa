/- A part of the proof about FnExactTwoProof (S3a). -/
import Derived.Test.YtjgbnaihpicpgabGreatTc
import Derived.Test.YtjgbnaihpicpgabGreatTj
import Derived.Test.YtjgbnaihpicpgabGreatTk
set_option linter.all false
noncomputable section
namespace Go.Proofs.YtjgbnaihpicpgabGreat
open Go oq
attribute [local irreducible] uy zk yt nN mY oR kj C7 D_ BZ D9 Be vL mA oG Dk ju lM
set_option maxHeartbeats 4000000
set_option maxRecDepth 4000
instance:Cl iP:=Cl.agg _ (fun _=>rfl) (fun _=>rfl)
instance:Cl jw:=Cl.agg _ (fun _=>rfl) (fun _=>rfl)
instance:Cl iC:=Cl.agg _ (fun _=>rfl) (fun _=>rfl)
instance:Cl iU:=Cl.agg _ (fun _=>rfl) (fun _=>rfl)
instance:Cl kN:=Cl.agg _ (fun _=>rfl) (fun _=>rfl)
instance:Cl iX:=Cl.agg _ (fun _=>rfl) (fun _=>rfl)
instance:Cl jJ:=Cl.agg _ (fun _=>rfl) (fun _=>rfl)
instance:Cl lO:=Cl.agg _ (fun _=>rfl) (fun _=>rfl)
def aeo:iJ:=
 (.seq (.iE (sq 2 [mb false])) (.seq (.iE (sq 3 [mv 0,bi .geq 3 0,mv 4]++sg 5 true 6 [mv 0,bi .leq 6 20]++sq 8 [pa 5 7]++sq 2 [mv 8])) .ret))
theorem afR:jV Tryz.prog 57 aeo 9 [.tmp 2]:=mf Tryz.func57 Tryz.ntmps57
def uK(steps:Int):Option Bool:=
 if(decide (0<=steps))=true then
  some (decide (steps<=20))
 else
  some false
instance UN{steps:Int}:jf (uK steps) fun rr=>jK Tryz.prog 57 [iD steps] (bD rr):=⟨@fun rr h=>by
 delta uK at h;refine afR.jv (iB ?_);delta aeo;refine jd ?_;exact lW⟩
def aer:iJ:=
 (.seq (.iE (sq 4 [.mv (.const (.slice none 0 0)),mb false])) (.seq (.seq (.iE (sq 8 [mv 0,ln 8,mi 0])) (.block 0 (.loop (.seq (.iE (sq 11 [bn .lss 10 9])) (.seq (.cond (t0 11) .skip (.exit 0)) (.seq (.block 1 (.seq (.iE (sq 12 [ix 1 8 10,ld 12]++sq 7 [mv 13])) (.seq (.iE (sq 14 [mv 7,mv 1,cf 106 [14,15],nt 16])) (.cond (t0 17) (.seq (.iE (sq 18 [mv 7]++sq 4 [mv 18,mb true])) .ret) .skip)))) (.iE (sq 19 [bi .add 10 1]++sq 10 [mv 19])))))))) (.seq (.iE (sq 4 [.mv (.const (.slice none 0 0)),mb false])) .ret)))
theorem afU:jV Tryz.prog 60 aer 20 [.tmp 4,.tmp 5]:=mf Tryz.func60 Tryz.ntmps60
def mP(ts:gJ)(t:gI):Int->Option (Int⊕ir)
 |v10=>
  if(decide (v10<(ts.length:Int)))=true then
   if 0<=v10/\v10<(ts.length:Int)then
    (jG (ts.getD v10.toNat default) t).bind fun r=>
    if r=true then
     some (.inl (IntKind.i64.wrap (v10+1)))
    else
     Option.map Sum.inr (
      some ((ts.getD v10.toNat default),true))
   else none
  else
   Option.map Sum.inr (
    some ([],false))
def t_(ts:gJ)(t:gI):Option ir:=
 iL (mP ts t) 0
instance Pm{ts:gJ}{t:gI}:jf (t_ ts t) fun rr=>mO Tryz.prog 60 [(iH 1 (iH 1 iD)) ts,(iH 1 iD) t] [(iH 1 iD) rr.1,bD rr.2]:=⟨@fun rr h=>by
 delta t_ at h;refine afU.mz (iB ?_);delta aer;refine jd ?_;refine kH h [4,5,7,10,11,12,13,14,15,16,17,18,19] (fun pp=>[(10,.d (iD pp))]) (fun pp=>[]) ?_;rintro v10 t1 h hb1;unfold mP at h;try dsimp only at h
 refine iB (jd ?_);exact lW⟩
def adY:iJ:=
 (.seq (.iE (sq 2 [bo 2 37 0]++sq 4 [.alloc 4 47 [.sl 0 (some true) [],.sl 0 (some true) [],.sl 0 (some true) [],.lit (.int .i64 0),.lit (.int .i64 0),.lit (.int .i64 0)],.mv (.const (.slice none 0 0)),.mv (.const (.slice none 0 0)),mb false])) (.seq (.seq (.iE (sq 17 [la 2 2,cf 56 [17],nt 18,mv 19]++sg 20 false 21 [mv 1,cf 57 [21],nt 22]++sq 24 [po 20 23])) (.cond (t0 24) (.seq (.iE (sq 25 [.build [.sl 0 (some true) [],.sl 0 (some true) [],.sl 0 (some true) [],.lit (.int .i64 0),.lit (.int .i64 0),.lit (.int .i64 0)] []]++s0 (sr 6 4 25)++sq 5 [.mv (.const (.slice none 0 0)),.mv (.const (.slice none 0 0)),mb false])) .ret) .skip)) (.seq (.iE (sq 27 [la 2 2,cf 58 [27]]++sq 26 [mv 28]++sq 29 [ex 26 0,ex 26 1]++sq 8 [mv 29,mv 30])) (.seq (.seq (.iE (sq 31 [mv 8,ln 31,mi 0])) (.block 0 (.loop (.seq (.iE (sq 34 [bn .lss 33 32])) (.seq (.cond (t0 34) .skip (.exit 0)) (.seq (.block 1 (.seq (.iE (sq 35 [ix 6 31 33,la 6 35]++sq 11 [.alloc 11 47 [.sl 0 (some true) [],.sl 0 (some true) [],.sl 0 (some true) [],.lit (.int .i64 0),.lit (.int .i64 0),.lit (.int .i64 0)]]++s0 (sr 6 11 36))) (.seq (.iE (sq 37 [la 2 2,fa 2 11,ld 38,mv 1,cf 59 [37,39,40]]++sq 12 [mv 41])) (.seq (.iE (sq 42 [la 2 2,fa 1 11,ld 43,mv 1,cf 59 [42,44,45],ln 46,mi 0])) (.block 2 (.loop (.seq (.iE (sq 49 [bn .lss 48 47])) (.seq (.cond (t0 49) .skip (.exit 2)) (.seq (.block 3 (.seq (.iE (sq 50 [ix 1 46 48,ld 50]++sq 14 [mv 51])) (.seq (.iE (sq 53 [mv 12,mv 14,cf 60 [53,54]]++sq 52 [mv 55]++sq 56 [ex 52 0,ex 52 1]++sq 15 [mv 56,mv 57])) (.seq (.iE (sq 58 [mv 16])) (.cond (t0 58) (.seq (.iE (sq 59 [la 6 11,mv 14,mv 15]++s0 (sr 6 4 59)++sq 5 [mv 60,mv 61,mb true])) .ret) .skip))))) (.iE (sq 62 [bi .add 48 1]++sq 48 [mv 62]))))))))))) (.iE (sq 63 [bi .add 33 1]++sq 33 [mv 63])))))))) (.seq (.iE (sq 64 [.build [.sl 0 (some true) [],.sl 0 (some true) [],.sl 0 (some true) [],.lit (.int .i64 0),.lit (.int .i64 0),.lit (.int .i64 0)] []]++s0 (sr 6 4 64)++sq 5 [.mv (.const (.slice none 0 0)),.mv (.const (.slice none 0 0)),mb false])) .ret)))))
theorem afq:jV Tryz.prog 24 adY 65 [.cell 4 6 true,.tmp 5,.tmp 6,.tmp 7]:=mf Tryz.func24 Tryz.ntmps24
def n_(r_2:iw)(v33:Int)(r_3:gJ)(r_4:gJ):Int->Option (Int⊕(Int⊕iy))
 |v48=>
  if(decide (v48<(r_4.length:Int)))=true then
   if 0<=v48/\v48<(r_4.length:Int)then
    (t_ r_3 (r_4.getD v48.toNat default)).bind fun r_5=>
    if r_5.2=true then
     Option.map Sum.inr (
      Option.map Sum.inr (
       some (((r_2.1.getD v33.toNat default).1,(r_2.1.getD v33.toNat default).2.1,(r_2.1.getD v33.toNat default).2.2.1,(r_2.1.getD v33.toNat default).2.2.2.1,(r_2.1.getD v33.toNat default).2.2.2.2.1,(r_2.1.getD v33.toNat default).2.2.2.2.2),(r_4.getD v48.toNat default),r_5.1,true)))
    else
     some (.inl (IntKind.i64.wrap (v48+1)))
   else none
  else
   Option.map Sum.inr (
    some (.inl (IntKind.i64.wrap (v33+1))))
def nZ(sys:gW)(steps:Int)(r_2:iw):Int->Option (Int⊕iy)
 |v33=>
  if(decide (v33<(r_2.1.length:Int)))=true then
   if 0<=v33/\v33<(r_2.1.length:Int)then
    (oH sys ((r_2.1.getD v33.toNat default).2.2.1) steps).bind fun r_3=>
    (oH sys ((r_2.1.getD v33.toNat default).2.1) steps).bind fun r_4=>
    iL (n_ r_2 v33 r_3 r_4) 0
   else none
  else
   Option.map Sum.inr (
    some (([],[],[],0,0,0),[],[],false))
def tu(sys:gW)(steps:Int):Option iy:=
 (pZ sys).bind fun r=>
 if r=true then
  (uK steps).bind fun r_1=>
  if r_1=true then
   (vQ sys).bind fun r_2=>
   iL (nZ sys steps r_2) 0
  else
   some (([],[],[],0,0,0),[],[],false)
 else
  some (([],[],[],0,0,0),[],[],false)
instance R3{sys:gW}{steps:Int}:jf (tu sys steps) fun rr=>mO Tryz.prog 24 [iU sys,iD steps] [kN rr.1,(iH 1 iD) rr.2.1,(iH 1 iD) rr.2.2.1,bD rr.2.2.2]:=⟨@fun rr h=>by
 delta tu at h;refine afq.mz (iB ?_);delta adY;refine jd ?_;refine rC h fun r hr h=>?_
 refine iT h fun hc h=>?_
 refine rC h fun r_1 hr_1 h=>?_
 refine iT h fun hc h=>?_
 refine TP h fun r_2 hr_2 h=>?_
 refine kH h [5,6,7,11,12,14,15,16,33,34,35,36,37,38,39,40,41,42,43,44,45,46,47,48,49,50,51,52,53,54,55,56,57,58,59,60,61,62,63] (fun pp=>[(33,.d (iD pp))]) (fun pp=>[(2,.obj 37 [.d (iH 1 iD sys.1),.d (iH 2 iC sys.2)]),(4,.obj 47 [.d (.sl 0 (some true) []),.d (.sl 0 (some true) []),.d (.sl 0 (some true) []),.d (iD 0),.d (iD 0),.d (iD 0)])]) ?_;rintro v33 t1 h hb1;unfold nZ at h;try dsimp only at h
 refine iB (jd ?_);refine iT h fun hc h=>?_
 refine jZ h fun hp h=>?_
 refine rC h fun r_3 hr_3 h=>?_
 refine rC h fun r_4 hr_4 h=>?_
 refine kH h [5,6,7,14,15,16,48,49,50,51,52,53,54,55,56,57,58,59,60,61,62] (fun pp=>[(48,.d (iD pp))]) (fun pp=>[(2,.obj 37 [.d (iH 1 iD sys.1),.d (iH 2 iC sys.2)]),(4,.obj 47 [.d (.sl 0 (some true) []),.d (.sl 0 (some true) []),.d (.sl 0 (some true) []),.d (iD 0),.d (iD 0),.d (iD 0)]),(11,.obj 47 [.d (iH 1 iD ((r_2.1.getD v33.toNat default).1)),.d (iH 1 iD ((r_2.1.getD v33.toNat default).2.1)),.d (iH 1 iD ((r_2.1.getD v33.toNat default).2.2.1)),.d (iD ((r_2.1.getD v33.toNat default).2.2.2.1)),.d (iD ((r_2.1.getD v33.toNat default).2.2.2.2.1)),.d (iD ((r_2.1.getD v33.toNat default).2.2.2.2.2))])]) ?_;rintro v48 t2 h hb2;unfold n_ at h;try dsimp only at h
 refine iB (jd ?_);refine iF h fun hc h=>?_
 replace h:=jD h hb2;cases h;refine⟨_,rfl,?_⟩;refine(iW.drop 11 iA).trans ?_;exact wk⟩
def aeu:iJ:=
 (.seq (.iE (sq 4 [bo 4 34 0]++sq 8 [mb false])) (.seq (.iE (sq 9 [mv 3,mv 2,bn .geq 9 10,mv 11]++sg 12 true 13 [mv 3,la 1 4,mv 1,mv 2,cf 108 [14,15,16],bn .lss 13 17]++sq 19 [pa 12 18]++sq 8 [mv 19])) .ret))
theorem afX:jV Tryz.prog 63 aeu 20 [.tmp 8]:=mf Tryz.func63 Tryz.ntmps63
def uL(sig:gI)(t:gI)(iY:Int)(p:Int):Option Bool:=
 if(decide (iY<=p))=true then
  (mF sig t iY).bind fun r=>
  some (decide (p<r))
 else
  some false
instance UO{sig:gI}{t:gI}{iY:Int}{p:Int}:jf (uL sig t iY p) fun rr=>jK Tryz.prog 63 [jw sig,(iH 1 iD) t,iD iY,iD p] (bD rr):=⟨@fun rr h=>by
 delta uL at h;refine afX.jv (iB ?_);delta aeu;refine jd ?_;exact lW⟩
def ad0:iJ:=
 (.seq (.iE (sq 3 [bo 3 34 0]++sq 6 [.mv (.const (.slice none 0 0))])) (.scope (.seq (.iE (sq 7 [.mv (.const (.slice none 0 0))])) (.seq (.iE (sq 8 [mi 0])) (.seq .label (.seq (.block 0 (.loop (.seq (.seq (.iE (sq 11 [mv 8,mv 2,bn .neq 11 12])) (.cond (t0 13) .skip (.exit 0))) (.block 1 (.seq (.iE (sq 14 [la 1 3,mv 1,mv 8,cf 62 [14,15,16],ln 17,mi 0])) (.block 2 (.loop (.seq (.iE (sq 20 [bn .lss 19 18])) (.seq (.cond (t0 20) .skip (.exit 2)) (.seq (.block 3 (.seq (.iE (sq 21 [mv 19,ix 1 17 19,ld 22]++sq 9 [mv 21,mv 23])) (.seq (.iE (sq 24 [la 1 3,mv 1,mv 10,mv 2,cf 63 [24,25,26,27]])) (.cond (t0 28) (.seq (.iE (sq 29 [mv 7,mv 9,.nY 31 2 1 [(t0 30)],ap 32 2 1 8 29 31]++sq 7 [mv 32])) (.seq (.iE (sq 33 [mv 10]++sq 8 [mv 33])) (.exit 1))) .skip)))) (.iE (sq 34 [bi .add 19 1]++sq 19 [mv 34])))))))))))) (.seq (.iE (sq 35 [mv 7]++sq 6 [mv 35])) .ret)))))))
theorem afs:jV Tryz.prog 26 ad0 36 [.tmp 6]:=mf Tryz.func26 Tryz.ntmps26
def qW(sig:gI)(t:gI)(iY:Int)(path:gI)(p:Int)(r:gI):Int->Option (Int⊕iq)
 |v19=>
  if(decide (v19<(r.length:Int)))=true then
   if 0<=v19/\v19<(r.length:Int)then
    (uL sig t (r.getD v19.toNat default) iY).bind fun r_1=>
    if r_1=true then
     if(path.length+1)*8<=140737488355328 then
      Option.map Sum.inr (
       some (.inl ((path++[v19]),(r.getD v19.toNat default))))
     else none
    else
     some (.inl (IntKind.i64.wrap (v19+1)))
   else none
  else
   Option.map Sum.inr (
    some (.inl (path,p)))
def qV(sig:gI)(t:gI)(iY:Int):gT->Option iq
 |(path,p)=>
  if(p != iY)=true then
   (mD sig t p).bind fun r=>
   iL (qW sig t iY path p r) 0
  else
   Option.map Sum.inr (
    some path)
def uN(sig:gI)(t:gI)(iY:Int):Option gI:=
 iL (qV sig t iY) ([],0)
instance UQ{sig:gI}{t:gI}{iY:Int}:jf (uN sig t iY) fun rr=>jK Tryz.prog 26 [jw sig,(iH 1 iD) t,iD iY] ((iH 1 iD) rr):=⟨@fun rr h=>by
 delta uN at h;refine afs.jv (iB ?_);delta ad0;refine jd ?_;refine nL h [7,8,9,10,11,12,13,14,15,16,17,18,19,20,21,22,23,24,25,26,27,28,29,30,31,32,33,34] (fun pp=>[(7,.own 1 32 (List.map iD pp.1)),(8,.d (iD pp.2))]) (fun pp=>[(3,.obj 34 [.d (iH 1 iD sig)]),(32,.tok 2 1 pp.1.length)]) ?_ ?_
 ·try dsimp only
  refine(iW.Ll 7 32 2 1 rfl rfl).trans ?_;exact wk
 rintro⟨path,p⟩ t1 h hb1;unfold qV at h;try dsimp only at h
 refine iB (jd ?_);refine iT h fun hc h=>?_
 refine rC h fun r hr h=>?_
 refine kH h [7,8,9,10,19,20,21,22,23,24,25,26,27,28,29,30,31,32,33,34] (fun pp=>[(7,.own 1 32 (List.map iD path)),(8,.d (iD p)),(19,.d (iD pp))]) (fun pp=>[(3,.obj 34 [.d (iH 1 iD sig)]),(32,.tok 2 1 path.length)]) ?_;rintro v19 t2 h hb2;unfold qW at h;try dsimp only at h
 refine iB (jd ?_);refine iT h fun hc h=>?_
 refine jZ h fun hp h=>?_
 refine rC h fun r_1 hr_1 h=>?_
 refine iT h fun hc h=>?_
 refine jZ h fun hp h=>?_
 replace h:=jD h hb2;cases h;refine⟨_,rfl,?_⟩;refine(iW.drop 31 iA).trans ?_;exact wk⟩
def adZ:iJ:=
 (.seq (.iE (sq 3 [bo 3 34 0]++sq 6 [mi 0])) (.seq (.seq (.iE (sq 11 [la 1 3,mv 1,cf 61 [11,12],nt 13])) (.cond (t0 14) (.seq (.iE (sq 6 [mi (-1)])) .ret) .skip)) (.seq (.iE (sq 7 [mi 0])) (.seq (.seq (.iE (sq 15 [mv 2,ln 15,mi 0])) (.block 0 (.loop (.seq (.iE (sq 18 [bn .lss 17 16])) (.seq (.cond (t0 18) .skip (.exit 0)) (.seq (.block 1 (.seq (.iE (sq 19 [ix 1 15 17,ld 19]++sq 9 [mv 20])) (.seq (.iE (sq 21 [la 1 3,mv 1,mv 7,cf 62 [21,22,23]]++sq 10 [mv 24])) (.seq (.seq (.iE (sq 25 [mv 9,bi .lss 25 0,mv 26]++sg 27 false 28 [mv 9,mv 10,ln 29,bn .geq 28 30]++sq 32 [po 27 31])) (.cond (t0 32) (.seq (.iE (sq 6 [mi (-1)])) .ret) .skip)) (.iE (sq 33 [mv 10,mv 9,ix 1 33 34,ld 35]++sq 7 [mv 36])))))) (.iE (sq 37 [bi .add 17 1]++sq 17 [mv 37])))))))) (.seq (.iE (sq 38 [mv 7]++sq 6 [mv 38])) .ret)))))
theorem afr:jV Tryz.prog 25 adZ 39 [.tmp 6]:=mf Tryz.func25 Tryz.ntmps25
def qd(sig:gI)(t:gI)(path:gI):gP->Option ie
 |(iY,v17)=>
  if(decide (v17<(path.length:Int)))=true then
   if 0<=v17/\v17<(path.length:Int)then
    (mD sig t iY).bind fun r_1=>
    if(decide ((path.getD v17.toNat default)<0))=true then
     Option.map Sum.inr (
      some (-1))
    else
     if(decide ((r_1.length:Int)<=(path.getD v17.toNat default)))=true then
      Option.map Sum.inr (
       some (-1))
     else
      if 0<=(path.getD v17.toNat default)/\(path.getD v17.toNat default)<(r_1.length:Int)then
       some (.inl ((r_1.getD (path.getD v17.toNat default).toNat default),(IntKind.i64.wrap (v17+1))))
      else none
   else none
  else
   Option.map Sum.inr (
    some iY)
def qS(sig:gI)(t:gI)(path:gI):Option Int:=
 (oC sig t).bind fun r=>
 if r=true then
  iL (qd sig t path) (0,0)
 else
  some (-1)
instance RZ{sig:gI}{t:gI}{path:gI}:jf (qS sig t path) fun rr=>jK Tryz.prog 25 [jw sig,(iH 1 iD) t,(iH 1 iD) path] (iD rr):=⟨@fun rr h=>by
 delta qS at h;refine afr.jv (iB ?_);delta adZ;refine jd ?_;refine rC h fun r hr h=>?_
 refine iT h fun hc h=>?_
 refine kH h [6,7,9,10,17,18,19,20,21,22,23,24,25,26,27,28,29,30,31,32,33,34,35,36,37] (fun pp=>[(7,.d (iD pp.1)),(17,.d (iD pp.2))]) (fun pp=>[(3,.obj 34 [.d (iH 1 iD sig)])]) ?_;rintro⟨iY,v17⟩ t1 h hb1;unfold qd at h;try dsimp only at h
 refine iB (jd ?_);exact lW⟩
def aex:iJ:=
 (.seq (.iE (sq 1 [bo 1 57 0,.mv (.const (.slice none 0 0))])) (.seq (.seq (.iE (sq 4 [fa 1 1,ld 4,ln 5]++sq 3 [mv 6])) (.seq (.iE (sq 7 [mv 3,bi .gtr 7 0])) (.cond (t0 8) (.seq (.iE (sq 9 [fa 1 1,ld 9,mv 3,bi .sub 11 1,ix 3 10 12,fa 2 13,ld 14]++sq 2 [mv 15])) .ret) .skip))) (.seq (.iE (sq 16 [fa 0 1,ld 16]++sq 2 [mv 17])) .ret)))
theorem af0:jV Tryz.prog 67 aex 18 [.tmp 2]:=mf Tryz.func67 Tryz.ntmps67
def kI(w:gX):Option gI:=
 if(decide (0<(w.2.length:Int)))=true then
  if 0<=(IntKind.i64.wrap ((w.2.length:Int)-1))/\(IntKind.i64.wrap ((w.2.length:Int)-1))<(w.2.length:Int)then
   some ((w.2.getD (IntKind.i64.wrap ((w.2.length:Int)-1)).toNat default).2.2)
  else none
 else
  some w.1
instance Q8{w:gX}:jf (kI w) fun rr=>jK Tryz.prog 67 [jJ w] ((iH 1 iD) rr):=⟨@fun rr h=>by
 delta kI at h;refine af0.jv (iB ?_);delta aex;refine jd ?_;exact lW⟩
def YB:iJ:=
 (.seq (.iE (sq 3 [bo 3 95 1])) (.draw (sq 4 [mv 0,mv 0,.pY (t0 5),fa 1 6,ld 7,fa 0 3,ld 9,fa 1 3,ld 11,fa 2 3,ld 13,cf 64 [14],.build [.lit (.int .i64 0),.lit (.int .i64 0),.sl 0 (some true) []] [(0,1,(t0 10)),(1,1,(t0 12)),(2,1,(t0 15))],.nY 17 95 3 [(t0 16)],ap 18 95 3 40 8 17,.pY (t0 4),fa 1 19]++s0 (sr 1 20 18)) [[],[],[1],[2],[3],[],[5],[],[7],[],[9],[10],[6,8,11],[12],[4,13,11],[0,0,1,2,3,4,5,6,7,8,9,10,11,12,13,14],[15,0,1,2,3,4,5,6,7,8,9,10,11,12,13,14],[16,14,14,0,1,2,3,4,5,6,7,8,9,10,11,12,13,14]]))
theorem abH:jV Tryz.prog 111 YB 21 []:=mf Tryz.func111 Tryz.ntmps111
def lS(s:gL)(w0:gI)(w1:gS):Option gS:=
 (jr s.2.2).bind fun r=>
 if(w1.length+1)*40<=140737488355328 then
  some (w1++[(s.1,s.2.1,r)])
 else none
instance Q7{s:gL}{w0:gI}{w1:gS}:jf (lS s w0 w1) fun rr=>iR Tryz.prog 111 [.ptr 0 0,.d (.agg [iD s.1,iD s.2.1,iH 1 iD s.2.2])] [(0,.obj 57 [.d (iH 1 iD w0),.own 3 1 (List.map iX w1)]),(1,.tok 95 3 w1.length)] 2 fun xx ss=>xx=.kZ []/\ss=[(0,.obj 57 [.d (iH 1 iD w0),.own 3 1 (List.map iX rr)]),(1,.tok 95 3 rr.length)]:=⟨@fun rr h=>by
 delta lS at h;refine abH.oo (iB ?_);delta YB;refine jd ?_;refine dC h fun r hr h=>?_
 refine jZ h fun hp h=>?_
 refine jM (by kernel_rfl) (jd ?_);cases h;exact⟨[3,17],by simp,nh,nh⟩⟩
def aev:iJ:=
 (.seq (.iE (sq 5 [bo 5 37 1]++sq 8 [mb false])) (.seq (.draw (sq 12 [la 2 5,mv 0,.pY (t0 13),la 2 14,cf 67 [15],mv 2,mv 3,cf 110 [12,16,17,18]]++sq 11 [mv 19]++sq 20 [ex 11 0,ex 11 1]++sq 9 [mv 20,mv 21]) [[],[],[1],[2],[3],[],[],[0,4,5,6,4],[7],[8],[8],[9,7,0,1,2,3,4,5,6,7,8,9],[10,11,0,1,2,3,4,5,6,7,8,9,10,11]]) (.seq (.seq (.iE (sq 22 [mv 10,nt 22,mv 23]++sg 24 false 25 [mv 0,.pY (t0 25),fa 1 26,ld 27,ln 28,bi .eql 29 60]++sq 31 [po 24 30])) (.cond (t0 31) (.seq (.iE (sq 8 [mb false])) .ret) .skip)) (.seq (.iE (sq 32 [mv 0,mv 2,mv 3,mv 9,.build [.lit (.int .i64 0),.lit (.int .i64 0),.sl 0 (some true) []] [(0,1,(t0 33)),(1,1,(t0 34)),(2,1,(t0 35))],cf 111 [32,36]])) (.seq (.iE (sq 8 [mb true])) .ret)))))
theorem afY:jV Tryz.prog 65 aev 38 [.tmp 8]:=mf Tryz.func65 Tryz.ntmps65
def oU(sys:gW)(iY:Int)(rule:Int)(w0:gI)(w1:gS):Option (Bool×gS):=
 (kI (w0,w1)).bind fun r=>
 (vu sys r iY rule).bind fun r_1=>
 if r_1.2=true then
  if((w1.length:Int)==60)=true then
   some (false,w1)
  else
   (lS (iY,rule,r_1.1) w0 w1).bind fun r_2=>
   some (true,r_2)
 else
  some (false,w1)
instance LY{sys:gW}{iY:Int}{rule:Int}{w0:gI}{w1:gS}:jf (oU sys iY rule w0 w1) fun rr=>iR Tryz.prog 65 [.ptr 0 0,.d (.agg [iH 1 iD sys.1,iH 2 iC sys.2]),.d (iD iY),.d (iD rule)] [(0,.obj 57 [.d (iH 1 iD w0),.own 3 1 (List.map iX w1)]),(1,.tok 95 3 w1.length)] 2 fun xx ss=>xx=.d (bD rr.1)/\ss=[(0,.obj 57 [.d (iH 1 iD w0),.own 3 1 (List.map iX rr.2)]),(1,.tok 95 3 rr.2.length)]:=⟨@fun rr h=>by
 delta oU at h;refine afY.oo (iB ?_);delta aev;refine jd ?_;refine dC h fun r hr h=>?_
 refine dCN h fun r_1 hr_1 h=>?_
 refine jM (by kernel_rfl) (jd ?_);refine it h (fun hc h=>?_) fun hc h=>?_
 ·refine it h (fun hc h=>?_) fun hc h=>?_
  ·cases h;exact⟨[5],by simp,nh,nh⟩
  refine tg [(0,0),(1,1)] [] h fun r_2 hr_2 h=>?_
  cases h;exact⟨[5],by simp,nh,nh⟩
 cases h;exact⟨[5],by simp,nh,nh⟩⟩
def ku(_:gS):Option Unit:=some ()
theorem acw:jV Tryz.prog 163 (RO 173 55) 4 [.tmp 2]:=
 ⟨Tryz.f163,Tryz.func163,by kernel_rfl,Tryz.ntmps163,by kernel_rfl⟩
theorem acD:jV Tryz.prog 173 (abq 3) 19 []:=
 ⟨Tryz.f173,Tryz.func173,by kernel_rfl,Tryz.ntmps173,by kernel_rfl⟩
theorem abp(xs:gS):Iter Tryz.prog 173 [.pv [iH 3 iX xs]] (Bo iX xs):=P2 iX (fun _=>⟨_,rfl,rfl⟩) acD (by kernel_rfl) xs
instance B3{s:gS}:jf (ku s) fun _=>iR Tryz.prog 163 [.d (iH 3 iX s)] [] 0 fun xx ss=>xx=.fn 173 [] [.pv [iH 3 iX s]]/\ss=[]:=⟨fun _=>LP iX s acw⟩
def Y2:iJ:=
 (.seq (.iE (sq 4 [.alloc 4 57 [.sl 0 (some true) [],.sl 0 (some true) []]])) (.seq (.iE (sq 9 [mv 0,.xR 6 (t0 9) (i0 0),fa 0 10,ld 11,cf 64 [12],.build [.sl 0 (some true) [],.sl 0 (some true) []] [(0,1,(t0 13))]]++sq 5 [.alloc 5 57 [.sl 0 (some true) [],.sl 0 (some true) []]]++s0 (sr 2 5 14))) (.seq (.iE (sq 6 [.mv (.const (.slice none 0 0))])) (.seq (.block 0 (.loop (.seq (.seq (.iE (sq 15 [mv 1,bi .gtr 15 0])) (.cond (t0 16) .skip (.exit 0))) (.seq (.block 1 (.iE (sq 22 [mv 6,mv 0,mv 1,ix 6 23 24,fa 2 25,la 3 26,.nY 28 95 3 [(t0 27)],ap 29 95 3 40 22 28]++sq 6 [mv 29]))) (.iE (sq 17 [mv 0,mv 1,ix 6 17 18,fa 1 19,ld 20]++sq 1 [mv 21])))))) (.seq (.seq (.iE (sq 30 [mv 6,cf 163 [30]])) (.block 2 (.HR (t0 31) [32,33] (.iE (sq 8 [.alloc 8 95 [.lit (.int .i64 0),.lit (.int .i64 0),.sl 0 (some true) []]]++s0 (sr 3 8 33))) (.block 3 (.iE (sq 34 [la 3 8,cf 111 [5,34]])))))) (.seq (.iE (sq 36 [la 2 5]++s0 (sr 2 4 36))) .ret))))))
theorem ab8:jV Tryz.prog 141 Y2 37 [.cell 4 2 true]:=mf Tryz.func141 Tryz.ntmps141
def nk(r:gI)(steps:gS):(Nat×gS)->Option ((Nat×gS)⊕gX)
 |(jj,w)=>
  if jj<steps.length then
   (lS ((steps.getD (steps.length-1-jj) default).1,(steps.getD (steps.length-1-jj) default).2.1,(steps.getD (steps.length-1-jj) default).2.2) r w).bind fun r_2=>
   some (.inl (jj+1,r_2))
  else
   Option.map Sum.inr (
    some (r,w))
def nj(all:ig)(r:gI):iz->Option (iz⊕gX)
 |(k_1,steps)=>
  if(decide (0<k_1))=true then
   if 0<=k_1/\k_1<(all.length:Int)then
    if(steps.length+1)*40<=140737488355328 then
     if 0<=k_1/\k_1<(all.length:Int)then
      some (.inl ((all.getD k_1.toNat default).2.1,(steps++[((all.getD k_1.toNat default).2.2.1,(all.getD k_1.toNat default).2.2.2.1,(all.getD k_1.toNat default).2.2.2.2.1)])))
     else none
    else none
   else none
  else
   Option.map Sum.inr (
    (ku steps).bind fun r_1=>
    iL (nk r steps) (0,[]))
def sB(all:ig)(k:Int):Option gX:=
 if 0<=0/\0<(all.length:Int)then
  (jr ((all.getD 0 default).1)).bind fun r=>
  iL (nj all r) (k,[])
 else none
instance Rc{all:ig}{k:Int}:jf (sB all k) fun rr=>jK Tryz.prog 141 [(iH 6 lO) all,iD k] (jJ rr):=⟨@fun rr h=>by
 delta sB at h;refine ab8.jv (iB ?_);delta Y2;refine jd ?_;refine jZ h fun hp h=>?_
 refine rC h fun r hr h=>?_
 refine nL h [1,6,15,16,17,18,19,20,21,22,23,24,25,26,27,28,29] (fun pp=>[(1,.d (iD pp.1)),(6,.own 3 29 (List.map iX pp.2))]) (fun pp=>[(4,.obj 57 [.d (.sl 0 (some true) []),.d (.sl 0 (some true) [])]),(5,.obj 57 [.d (iH 1 iD r),.d (.sl 0 (some true) [])]),(29,.tok 95 3 pp.2.length)]) ?_ ?_
 ·try dsimp only
  refine(iW.Ll 6 29 95 3 rfl rfl).trans ?_;exact wk
 rintro⟨k_1,steps⟩ t1 h hb1;unfold nj at h;try dsimp only at h
 refine iB (jd ?_);refine it h (fun hc h=>?_) fun hc h=>?_
 ·refine jZ h fun hp h=>?_
  refine jZ h fun hp h=>?_
  refine jZ h fun hp h=>?_
  cases h;refine⟨_,rfl,?_⟩;refine(iW.drop 28 iA).trans ?_;exact wk
 replace h:=jD h hb1;refine tg [] [] h fun r_1 hr_1 h=>?_
 refine aaH [6,30] ?_;refine Wy (enc:=iX) (e:=3) (xs:=steps) h (abp _) 6 (fun pp=>[(4,.obj 57 [.d (.sl 0 (some true) []),.d (.sl 0 (some true) [])]),(5,.obj 57 [.d (iH 1 iD r),.own 3 300000 (List.map iX pp)]),(300000,.tok 95 3 pp.length)]) ?_ ?_ ?_
 ·try dsimp only
  refine(iW.drop 29 iA).trans ?_;refine(iW.wT 5 1 300000 95 3 rfl rfl rfl).trans ?_;exact wk
 ·rintro jj w t1 hj h hb1;unfold nk at h;try dsimp only at h
  rw[ah hj]at h;refine jd ?_;refine tg [(0,5),(1,300000)] [] h fun r_2 hr_2 h=>?_
  cases h;refine⟨_,rfl,?_⟩;exact⟨_,(iW.drop 8 iA).trans (wk (ju.refl _))⟩
 ·rintro w t1 h hb1;unfold nk at h;try dsimp only at h
  rw[aj (eP _)]at h;refine jd ?_;exact lW⟩
def YC:iJ:=
 (.seq (.iE (sq 4 [bo 4 37 0]++sq 8 [.alloc 8 57 [.sl 0 (some true) [],.sl 0 (some true) []],mb false])) (.seq (.iE (sq 14 [la 2 4,mv 1,mv 3,cf 104 [14,15,16]]++sq 13 [mv 17]++sq 18 [ex 13 0,ex 13 1]++sq 10 [mv 18,mv 19])) (.seq (.iE (sq 20 [mv 10,mv 2,cf 135 [20,21]]++sq 12 [mv 22])) (.seq (.seq (.iE (sq 23 [mv 12,bi .lss 23 0])) (.cond (t0 24) (.seq (.iE (sq 25 [.build [.sl 0 (some true) [],.sl 0 (some true) []] []]++s0 (sr 2 8 25)++sq 9 [mb false])) .ret) .skip)) (.seq (.iE (sq 26 [mv 10,mv 12,cf 141 [26,27]]++s0 (sr 2 8 28)++sq 9 [mb true])) .ret)))))
theorem abI:jV Tryz.prog 112 YC 29 [.cell 8 2 true,.tmp 9]:=mf Tryz.func112 Tryz.ntmps112
def xB(sys:gW)(t:gI)(u:gI)(steps:Int):Option (gX×Bool):=
 (qe sys t steps).bind fun r=>
 (ua r.1 u).bind fun r_1=>
 if(decide (r_1<0))=true then
  some (([],[]),false)
 else
  (sB r.1 r_1).bind fun r_2=>
  some (r_2,true)
instance UT{sys:gW}{t:gI}{u:gI}{steps:Int}:jf (xB sys t u steps) fun rr=>mO Tryz.prog 112 [iU sys,(iH 1 iD) t,(iH 1 iD) u,iD steps] [jJ rr.1,bD rr.2]:=⟨@fun rr h=>by
 delta xB at h;refine abI.mz (iB ?_);delta YC;refine jd ?_;exact lW⟩
def aew:iJ:=
 (.seq (.iE (sq 4 [bo 4 37 0]++sq 8 [.alloc 8 57 [.sl 0 (some true) [],.sl 0 (some true) []],mb false])) (.seq (.seq (.iE (sq 10 [la 2 4,mv 3,mv 1,mv 2,.nY 14 22 1 [(t0 12),(t0 13)],cf 103 [10,11,14],nt 15])) (.cond (t0 16) (.seq (.iE (sq 17 [.build [.sl 0 (some true) [],.sl 0 (some true) []] []]++s0 (sr 2 8 17)++sq 9 [mb false])) .ret) .skip)) (.seq (.iE (sq 18 [la 2 4,mv 1,mv 2,mv 3,cf 112 [18,19,20,21],ex 22 0,ex 22 1]++s0 (sr 2 8 23)++sq 9 [mv 24])) .ret)))
theorem afZ:jV Tryz.prog 66 aew 25 [.cell 8 2 true,.tmp 9]:=mf Tryz.func66 Tryz.ntmps66
def sN(sys:gW)(t:gI)(u:gI)(steps:Int):Option (gX×Bool):=
 (nQ sys steps [t,u]).bind fun r=>
 if r=true then
  (xB sys t u steps).bind fun r_1=>
  some r_1
 else
  some (([],[]),false)
instance UL{sys:gW}{t:gI}{u:gI}{steps:Int}:jf (sN sys t u steps) fun rr=>mO Tryz.prog 66 [iU sys,(iH 1 iD) t,(iH 1 iD) u,iD steps] [jJ rr.1,bD rr.2]:=⟨@fun rr h=>by
 delta sN at h;refine afZ.mz (iB ?_);delta aew;refine jd ?_;exact lW⟩
def YD:iJ:=
 (.seq (.iE (sq 1 [bo 1 57 0,.alloc 2 57 [.sl 0 (some true) [],.sl 0 (some true) []]])) (.seq (.iE (sq 6 [fa 0 1,ld 6,cf 64 [7],.build [.sl 0 (some true) [],.sl 0 (some true) []] [(0,1,(t0 8))]]++sq 3 [.alloc 3 57 [.sl 0 (some true) [],.sl 0 (some true) []]]++s0 (sr 2 3 9))) (.seq (.seq (.iE (sq 10 [fa 1 1,ld 10,ln 11,mi 0])) (.block 0 (.loop (.seq (.iE (sq 14 [bn .lss 13 12])) (.seq (.cond (t0 14) .skip (.exit 0)) (.seq (.block 1 (.seq (.iE (sq 15 [ix 3 11 13,la 3 15]++sq 5 [.alloc 5 95 [.lit (.int .i64 0),.lit (.int .i64 0),.sl 0 (some true) []]]++s0 (sr 3 5 16))) (.iE (sq 17 [la 3 5,cf 111 [3,17]])))) (.iE (sq 19 [bi .add 13 1]++sq 13 [mv 19])))))))) (.seq (.iE (sq 20 [la 2 3]++s0 (sr 2 2 20))) .ret))))
theorem abJ:jV Tryz.prog 113 YD 21 [.cell 2 2 true]:=mf Tryz.func113 Tryz.ntmps113
def qM(w:gX)(r:gI):iz->Option (iz⊕gX)
 |(v13,out)=>
  if(decide (v13<(w.2.length:Int)))=true then
   if 0<=v13/\v13<(w.2.length:Int)then
    (lS ((w.2.getD v13.toNat default).1,(w.2.getD v13.toNat default).2.1,(w.2.getD v13.toNat default).2.2) r out).bind fun r_1=>
    some (.inl ((IntKind.i64.wrap (v13+1)),r_1))
   else none
  else
   Option.map Sum.inr (
    some (r,out))
def qT(w:gX):Option gX:=
 (jr w.1).bind fun r=>
 iL (qM w r) (0,[])
instance Pj{w:gX}:jf (qT w) fun rr=>iR Tryz.prog 113 [.d (.agg [iH 1 iD w.1,iH 3 iX w.2])] [] 0 fun xx ss=>xx=.agg [.d (iH 1 iD rr.1),.own 3 300000 (List.map iX rr.2)]/\ss=[(300000,.tok 95 3 rr.2.length)]:=⟨@fun rr h=>by
 delta qT at h;refine abJ.oo (iB ?_);delta YD;refine jd ?_;refine rC h fun r hr h=>?_
 refine nL h [5,13,14,15,16,17,18,19] (fun pp=>[(13,.d (iD pp.1))]) (fun pp=>[(1,.obj 57 [.d (iH 1 iD w.1),.d (iH 3 iX w.2)]),(2,.obj 57 [.d (.sl 0 (some true) []),.d (.sl 0 (some true) [])]),(3,.obj 57 [.d (iH 1 iD r),.own 3 300000 (List.map iX pp.2)]),(300000,.tok 95 3 pp.2.length)]) ?_ ?_
 ·try dsimp only
  refine(iW.wT 3 1 300000 95 3 rfl rfl rfl).trans ?_;exact wk
 rintro⟨v13,out⟩ t1 h hb1;unfold qM at h;try dsimp only at h
 refine iB (jd ?_);refine it h (fun hc h=>?_) fun hc h=>?_
 ·refine jZ h fun hp h=>?_
  refine tg [(0,3),(1,300000)] [] h fun r_1 hr_1 h=>?_
  cases h;refine⟨_,rfl,?_⟩;refine(iW.drop 5 iA).trans ?_;exact wk
 replace h:=jD h hb1;cases h;exact⟨[1,2,3],by simp,nh,nh⟩⟩
def aey:iJ:=
 (.seq (.iE (sq 2 [bo 2 57 0,bo 3 57 1,.alloc 4 57 [.sl 0 (some true) [],.sl 0 (some true) []],mb false])) (.seq (.seq (.draw (sq 9 [la 2 2,cf 67 [9],fa 0 3,ld 11,cf 106 [10,12],nt 13,mv 14]++sg 15 false 16 [fa 1 2,ld 16,ln 17,fa 1 3,ld 19,ln 20,bn .add 18 21,bi .gtr 22 60]++sq 24 [po 15 23]) [[],[0],[],[2],[1,3,1],[4],[5,4],[6],[7,6],[8,6],[6],[10,6],[11,6],[9,12,6],[13,6],[6,14]]) (.cond (t0 24) (.seq (.iE (sq 25 [.build [.sl 0 (some true) [],.sl 0 (some true) []] []]++s0 (sr 2 4 25)++sq 5 [mb false])) .ret) .skip)) (.seq (.iE (sq 26 [la 2 2,cf 113 [26]]++sq 6 [.alloc 6 57 [.sl 0 (some true) [],.sl 0 (some true) []]]++s0 (sr 2 6 27))) (.seq (.seq (.iE (sq 28 [fa 1 3,ld 28,ln 29,mi 0])) (.block 0 (.loop (.seq (.iE (sq 32 [bn .lss 31 30])) (.seq (.cond (t0 32) .skip (.exit 0)) (.seq (.block 1 (.seq (.iE (sq 33 [ix 3 29 31,la 3 33]++sq 8 [.alloc 8 95 [.lit (.int .i64 0),.lit (.int .i64 0),.sl 0 (some true) []]]++s0 (sr 3 8 34))) (.iE (sq 35 [la 3 8,cf 111 [6,35]])))) (.iE (sq 37 [bi .add 31 1]++sq 31 [mv 37])))))))) (.seq (.iE (sq 38 [la 2 6]++s0 (sr 2 4 38)++sq 5 [mb true])) .ret)))))
theorem af1:jV Tryz.prog 68 aey 39 [.cell 4 2 true,.tmp 5]:=mf Tryz.func68 Tryz.ntmps68
def qN(b:gX)(r_2:gX):iz->Option (iz⊕(gX×Bool))
 |(v31,out)=>
  if(decide (v31<(b.2.length:Int)))=true then
   if 0<=v31/\v31<(b.2.length:Int)then
    (lS ((b.2.getD v31.toNat default).1,(b.2.getD v31.toNat default).2.1,(b.2.getD v31.toNat default).2.2) r_2.1 out).bind fun r_3=>
    some (.inl ((IntKind.i64.wrap (v31+1)),r_3))
   else none
  else
   Option.map Sum.inr (
    some ((r_2.1,out),true))
def oJ(a:gX)(b:gX):Option (gX×Bool):=
 (kI a).bind fun r=>
 (jG r b.1).bind fun r_1=>
 if r_1=true then
  if(decide (60<(IntKind.i64.wrap ((a.2.length:Int)+(b.2.length:Int)))))=true then
   some (([],[]),false)
  else
   (qT a).bind fun r_2=>
   iL (qN b r_2) (0,r_2.2)
 else
  some (([],[]),false)
instance Pn{a:gX}{b:gX}:jf (oJ a b) fun rr=>mO Tryz.prog 68 [jJ a,jJ b] [jJ rr.1,bD rr.2]:=⟨@fun rr h=>by
 delta oJ at h;refine af1.mz (iB ?_);delta aey;refine jd ?_;refine dC h fun r hr h=>?_
 refine dC h fun r_1 hr_1 h=>?_
 refine iT h fun hc h=>?_
 refine jM (by kernel_rfl) (jd ?_);refine iF h fun hc h=>?_
 refine tg [] [(300000,27)] h fun r_2 hr_2 h=>?_
 refine kH h [8,31,32,33,34,35,36,37] (fun pp=>[(31,.d (iD pp.1))]) (fun pp=>[(2,.obj 57 [.d (iH 1 iD a.1),.d (iH 3 iX a.2)]),(3,.obj 57 [.d (iH 1 iD b.1),.d (iH 3 iX b.2)]),(4,.obj 57 [.d (.sl 0 (some true) []),.d (.sl 0 (some true) [])]),(6,.obj 57 [.d (iH 1 iD r_2.1),.own 3 27 (List.map iX pp.2)]),(27,.tok 95 3 pp.2.length)]) ?_;rintro⟨v31,out⟩ t1 h hb1;unfold qN at h;try dsimp only at h
 refine iB (jd ?_);refine iT h fun hc h=>?_
 refine jZ h fun hp h=>?_
 refine tg [(0,6),(1,27)] [] h fun r_3 hr_3 h=>?_
 cases h;refine⟨_,rfl,?_⟩;refine(iW.drop 8 iA).trans ?_;exact wk⟩
def Y3:iJ:=
 (.seq (.iE (sq 2 [mb false])) (.seq (.iE (sq 3 [mv 0,ln 3,bi .geq 4 1,mv 5]++sg 6 true 7 [mv 0,ln 7,bi .leq 8 60]++sq 10 [pa 6 9]++sq 2 [mv 10])) .ret))
theorem ab9:jV Tryz.prog 142 Y3 11 [.tmp 2]:=mf Tryz.func142 Tryz.ntmps142
def vT(t:gI):Option Bool:=
 if(decide (1<=(t.length:Int)))=true then
  some (decide ((t.length:Int)<=60))
 else
  some false
instance VM{t:gI}:jf (vT t) fun rr=>jK Tryz.prog 142 [(iH 1 iD) t] (bD rr):=⟨@fun rr h=>by
 delta vT at h;refine ab9.jv (iB ?_);delta Y3;refine jd ?_;exact lW⟩
def YE:iJ:=
 (.seq (.iE (sq 1 [bo 1 57 0,mb false])) (.seq (.iE (sq 3 [fa 1 1,ld 3,ln 4,bi .leq 5 60,mv 6]++sg 7 true 8 [fa 0 1,ld 8,cf 142 [9]]++sq 11 [pa 7 10]++sq 2 [mv 11])) .ret))
theorem abK:jV Tryz.prog 114 YE 12 [.tmp 2]:=mf Tryz.func114 Tryz.ntmps114
def oa(w:gX):Option Bool:=
 if(decide ((w.2.length:Int)<=60))=true then
  (vT w.1).bind fun r=>
  some r
 else
  some false
instance NL{w:gX}:jf (oa w) fun rr=>jK Tryz.prog 114 [jJ w] (bD rr):=⟨@fun rr h=>by
 delta oa at h;refine abK.jv (iB ?_);delta YE;refine jd ?_;exact lW⟩
def Tn:iJ:=
 (.seq (.iE (sq 1 [bo 1 57 0,.mv (.const (.slice none 0 0))])) (.seq (.iE (sq 3 [.mv (.const (.slice none 0 0))])) (.seq (.seq (.iE (sq 6 [fa 1 1,ld 6,ln 7,mi 0])) (.block 0 (.loop (.seq (.iE (sq 10 [bn .lss 9 8])) (.seq (.cond (t0 10) .skip (.exit 0)) (.seq (.block 1 (.seq (.iE (sq 11 [ix 3 7 9,la 3 11]++sq 5 [.alloc 5 95 [.lit (.int .i64 0),.lit (.int .i64 0),.sl 0 (some true) []]]++s0 (sr 3 5 12))) (.iE (sq 13 [mv 3,fa 0 5,ld 14,fa 1 5,ld 16,.nY 18 2 1 [(t0 15),(t0 17)],ap 19 2 1 8 13 18]++sq 3 [mv 19])))) (.iE (sq 20 [bi .add 9 1]++sq 9 [mv 20])))))))) (.seq (.iE (sq 21 [mv 3]++sq 2 [mv 21])) .ret))))
theorem Yh:jV Tryz.prog 115 Tn 22 [.tmp 2]:=mf Tryz.func115 Tryz.ntmps115
def vp(w:gX):gT->Option iq
 |(out,v9)=>
  if(decide (v9<(w.2.length:Int)))=true then
   if 0<=v9/\v9<(w.2.length:Int)then
    if(out.length+2)*8<=140737488355328 then
     some (.inl ((out++[(w.2.getD v9.toNat default).1,(w.2.getD v9.toNat default).2.1]),(IntKind.i64.wrap (v9+1))))
    else none
   else none
  else
   Option.map Sum.inr (
    some out)
def tw(w:gX):Option gI:=
 iL (vp w) ([],0)
instance J2{w:gX}:jf (tw w) fun rr=>jK Tryz.prog 115 [jJ w] ((iH 1 iD) rr):=⟨@fun rr h=>by
 delta tw at h;refine Yh.jv (iB ?_);delta Tn;refine jd ?_;refine nL h [3,5,9,10,11,12,13,14,15,16,17,18,19,20] (fun pp=>[(3,.own 1 19 (List.map iD pp.1)),(9,.d (iD pp.2))]) (fun pp=>[(1,.obj 57 [.d (iH 1 iD w.1),.d (iH 3 iX w.2)]),(19,.tok 2 1 pp.1.length)]) ?_ ?_
 ·try dsimp only
  refine(iW.Ll 3 19 2 1 rfl rfl).trans ?_;exact wk
 rintro⟨out,v9⟩ t1 h hb1;unfold vp at h;try dsimp only at h
 refine iB (jd ?_);refine iT h fun hc h=>?_
 refine jZ h fun hp h=>?_
 refine jZ h fun hp h=>?_
 cases h;refine⟨_,rfl,?_⟩;refine(iW.drop 5 iA).trans ?_;refine(iW.drop 18 iA).trans ?_;exact wk⟩
def aez:iJ:=
 (.seq (.iE (sq 1 [bo 1 57 0,.alloc 2 63 [.lit (.int .i64 0),.sl 0 (some true) [],.sl 0 (some true) [],.sl 0 (some true) []]])) (.seq (.seq (.iE (sq 3 [la 2 1,cf 114 [3],nt 4])) (.cond (t0 5) (.seq (.iE (sq 6 [.build [.lit (.int .i64 0),.sl 0 (some true) [],.sl 0 (some true) [],.sl 0 (some true) []] []]++s0 (sr 4 2 6))) .ret) .skip)) (.seq (.draw (sq 7 [la 2 1,cf 115 [7],fa 0 1,ld 9,cf 64 [10],.nY 12 22 1 [(t0 11)],.build [.lit (.int .i64 0),.sl 0 (some true) [],.sl 0 (some true) [],.sl 0 (some true) []] [(0,1,(i0 1)),(1,1,(t0 8)),(2,1,(t0 12))]]++s0 (sr 4 2 13)) [[],[0],[],[2],[3,1],[4],[1,5],[6,4,0,1,2,3,4,5,6]]) .ret)))
theorem af2:jV Tryz.prog 69 aez 14 [.cell 2 4 true]:=mf Tryz.func69 Tryz.ntmps69
def vN(w:gX):Option gQ:=
 (oa w).bind fun r=>
 if r=true then
  (tw w).bind fun r_1=>
  (jr w.1).bind fun r_2=>
  some (1,r_1,[r_2],[])
 else
  some (0,[],[],[])
instance NK{w:gX}:jf (vN w) fun rr=>jK Tryz.prog 69 [jJ w] (iP rr):=⟨@fun rr h=>by
 delta vN at h;refine af2.jv (iB ?_);delta aez;refine jd ?_;exact lW⟩
def ac7:iJ:=
 (.seq (.iE (sq 6 [bo 6 37 0]++sq 12 [.alloc 12 63 [.lit (.int .i64 0),.sl 0 (some true) [],.sl 0 (some true) [],.sl 0 (some true) []],mb false])) (.seq (.iE (sq 17 [mv 1,cf 64 [17],.build [.sl 0 (some true) [],.sl 0 (some true) []] [(0,1,(t0 18))]]++sq 14 [.alloc 14 57 [.sl 0 (some true) [],.sl 0 (some true) []]]++s0 (sr 2 14 19))) (.seq (.seq (.iE (sq 20 [la 2 6,mv 2,mv 3,cf 65 [14,20,21,22],nt 23])) (.cond (t0 24) (.seq (.iE (sq 25 [.build [.lit (.int .i64 0),.sl 0 (some true) [],.sl 0 (some true) [],.sl 0 (some true) []] []]++s0 (sr 4 12 25)++sq 13 [mb false])) .ret) .skip)) (.seq (.draw (sq 27 [la 2 6,la 2 14,cf 67 [28],mv 4,mv 5,cf 66 [27,29,30,31]]++sq 26 [mv 32]++sq 33 [ex 26 0,ex 26 1]++sq 15 [.alloc 15 57 [.sl 0 (some true) [],.sl 0 (some true) []]]++s0 (sr 2 15 33)++sq 16 [mv 34]) [[],[],[1],[],[],[0,2,3,4,2],[5],[6],[6],[],[9,7,5,0,1,2,3,4,5,6,7,9],[8,10,0,1,2,3,4,5,6,7,8,9,10]]) (.seq (.seq (.iE (sq 35 [mv 16,nt 35])) (.cond (t0 36) (.seq (.iE (sq 37 [.build [.lit (.int .i64 0),.sl 0 (some true) [],.sl 0 (some true) [],.sl 0 (some true) []] []]++s0 (sr 4 12 37)++sq 13 [mb false])) .ret) .skip)) (.seq (.iE (sq 39 [la 2 14,la 2 15,cf 68 [39,40]]++sq 38 [mv 41]++sq 42 [ex 38 0,ex 38 1]++s0 (sr 2 14 42)++sq 16 [mv 43])) (.seq (.iE (sq 44 [la 2 14,cf 69 [44],mv 16]++s0 (sr 4 12 45)++sq 13 [mv 46])) .ret)))))))
theorem adJ:jV Tryz.prog 27 ac7 47 [.cell 12 4 true,.tmp 13]:=mf Tryz.func27 Tryz.ntmps27
def Bf(sys:gW)(top:gI)(iY:Int)(rule:Int)(to:gI)(steps:Int):Option (gQ×Bool):=
 (jr top).bind fun r=>
 (oU sys iY rule r []).bind fun r_1=>
 if r_1.1=true then
  (kI (r,r_1.2)).bind fun r_2=>
  (sN sys r_2 to steps).bind fun r_3=>
  if r_3.2=true then
   (oJ (r,r_1.2) r_3.1).bind fun r_4=>
   (vN r_4.1).bind fun r_5=>
   some (r_5,r_4.2)
  else
   some ((0,[],[],[]),false)
 else
  some ((0,[],[],[]),false)
instance R7{sys:gW}{top:gI}{iY:Int}{rule:Int}{to:gI}{steps:Int}:jf (Bf sys top iY rule to steps) fun rr=>mO Tryz.prog 27 [iU sys,(iH 1 iD) top,iD iY,iD rule,(iH 1 iD) to,iD steps] [iP rr.1,bD rr.2]:=⟨@fun rr h=>by
 delta Bf at h;refine adJ.mz (iB ?_);delta ac7;refine jd ?_;refine rC h fun r hr h=>?_
 refine Gk 14 1 300000 95 3 rfl rfl rfl (jd ?_);refine tg [(0,14),(1,300000)] [] h fun r_1 hr_1 h=>?_
 exact lW⟩
def lq(w:gX):gT->Option iq
 |(out,v9)=>
  if(decide (v9<(w.2.length:Int)))=true then
   if 0<=v9/\v9<(w.2.length:Int)then
    if(out.length+2)*8<=140737488355328 then
     some (.inl ((out++[(w.2.getD v9.toNat default).1,(w.2.getD v9.toNat default).2.1]),(IntKind.i64.wrap (v9+1))))
    else none
   else none
  else
   Option.map Sum.inr (
    some out)
def me(w:gX):Option gI:=
 iL (lq w) ([],0)
instance HZ{w:gX}:jf (me w) fun rr=>iR Tryz.prog 115 [.d (.agg [iH 1 iD w.1,iH 3 iX w.2])] [] 0 fun xx ss=>xx=.own 1 900000 (List.map iD rr)/\ss=[(900000,.tok 2 1 rr.length)]:=⟨@fun rr h=>by
 delta me at h;refine Yh.sk (iB ?_);delta Tn;refine jd ?_;refine nL h [3,5,9,10,11,12,13,14,15,16,17,18,19,20] (fun pp=>[(3,.own 1 19 (List.map iD pp.1)),(9,.d (iD pp.2))]) (fun pp=>[(1,.obj 57 [.d (iH 1 iD w.1),.d (iH 3 iX w.2)]),(19,.tok 2 1 pp.1.length)]) ?_ ?_
 ·try dsimp only
  refine(iW.Ll 3 19 2 1 rfl rfl).trans ?_;exact wk
 rintro⟨out,v9⟩ t1 h hb1;unfold lq at h;try dsimp only at h
 refine iB (jd ?_);refine it h (fun hc h=>?_) fun hc h=>?_
 ·refine jZ h fun hp h=>?_
  refine jZ h fun hp h=>?_
  cases h;refine⟨_,rfl,?_⟩;refine(iW.drop 5 iA).trans ?_;refine(iW.drop 18 iA).trans ?_;exact wk
 replace h:=jD h hb1;cases h;exact iV.trans ((iV.trans (iV.move 19 900000 (ob:=.tok 2 1 rr.length) iA iA iA rfl (by first|rfl|(simp;done)|(simp[sat,lQ,sset,jz,rS,lU,Ob.jY,Ob.kill,jg];done))) (iV.ou [1] (by simp)))) (iV.told zP nh)⟩
def kO(s:gI):Option gI:=
 LK s (
  some []) (
  if(0+s.length)*8<=140737488355328 then
   some s
  else none)
instance E1{s:gI}:jf (kO s) fun rr=>iR Tryz.prog 64 [.d (iH 1 iD s)] [] 0 fun xx ss=>xx=.own 1 900000 (List.map iD rr)/\ss=[(900000,.tok 2 1 rr.length)]:=⟨@fun rr h=>by
 delta kO at h;refine adK.sk (iB ?_);delta ac8;refine jd ?_;have h1:=F5 h;refine vL.of (fun he=>?_) ?_
 ·replace h:=h1.1 (by simpa using he);clear h1;refine jd ?_;cases h;exact iV.trans ((iV.Fe 900000 2 1 (.own 1 900000 (List.map iD [])) (by first|rfl|simp[sat]) (by repeat' (first|exact TW.nil|refine TW.kZ ?_|refine TW.Co ?_|refine TW.agg ?_|refine Bc.cons ?_ ?_|exact Bc.nil|exact TW.refl)))) (iV.told zP nh)
 ·replace h:=h1.2;clear h1;refine jd ?_;refine jZ h fun hp h=>?_
  cases h;exact iV.trans ((iV.move 5 900000 (ob:=.tok 2 1 s.length) iA iA iA rfl (by first|rfl|(simp;done)|(simp[sat,lQ,sset,jz,rS,lU,Ob.jY,Ob.kill,jg];done)))) (iV.told zP nh)⟩
def vE:iJ:=
 (.seq (.iE (sq 1 [bo 1 57 0,.alloc 2 63 [.lit (.int .i64 0),.sl 0 (some true) [],.sl 0 (some true) [],.sl 0 (some true) []]])) (.seq (.seq (.iE (sq 3 [la 2 1,cf 114 [3],nt 4])) (.cond (t0 5) (.seq (.iE (sq 6 [.build [.lit (.int .i64 0),.sl 0 (some true) [],.sl 0 (some true) [],.sl 0 (some true) []] []]++s0 (sr 4 2 6))) .ret) .skip)) (.seq (.draw (sq 7 [la 2 1,cf 115 [7],fa 0 1,ld 9,cf 64 [10],.Fx 12 22 1 [(t0 11)],.build [.lit (.int .i64 0),.sl 0 (some true) [],.sl 0 (some true) [],.sl 0 (some true) []] [(0,1,(i0 1)),(1,1,(t0 8)),(2,1,(t0 12))]]++s0 (sr 4 2 13)) [[],[0],[],[2],[3,1],[4],[1,5],[6,4,0,1,2,3,4,5,6]]) .ret)))
theorem Al:jV Tryz.prog 69 vE 14 [.cell 2 4 true]:=mf Tryz.func69 Tryz.ntmps69
def l_(w:gX):Option gQ:=
 (oa w).bind fun r=>
 if r=true then
  (me w).bind fun r_1=>
  (kO w.1).bind fun r_2=>
  some (1,r_1,[r_2],[])
 else
  some (0,[],[],[])
instance J1{w:gX}:jf (l_ w) fun rr=>iR Tryz.prog 69 [.d (.agg [iH 1 iD w.1,iH 3 iX w.2])] [] 0 fun xx ss=>xx=.agg [.d (iD rr.1),.own 1 900000 (List.map iD rr.2.1),.own 1 900001 (List.map (iH 1 iD) rr.2.2.1),.own 1 900002 (List.map iD rr.2.2.2)]/\ss=[(900000,.tok 2 1 rr.2.1.length),(900001,.lI 22 1 rr.2.2.1.length (je (List.map (iH 1 iD) rr.2.2.1))),(900002,.tok 2 1 rr.2.2.2.length)]:=⟨@fun rr h=>by
 delta l_ at h;refine Al.sk (iB ?_);delta vE;refine jd ?_;refine rC h fun r hr h=>?_
 refine it h (fun hc h=>?_) fun hc h=>?_
 ·refine JH [] [(900000,8)] h fun r_1 hr_1 h=>?_
  refine JH [] [(900000,11)] h fun r_2 hr_2 h=>?_
  refine oS ?_;refine jM (by kernel_rfl) (jd ?_);cases h;exact iV.trans ((iV.trans (iV.xF 12 11 0 rfl rfl iA (by decide) (Whole.flat (t:=2) (n:=r_2.length) (by first|rfl|(simp[sat,lQ,sset,jz,rS,lU,Ob.jY,Ob.kill,jg];done)) (by simp))) (iV.trans (iV.ou [11] (by simp)) (iV.trans (iV.adb 12 (je (List.map (iH 1 iD) [r_2])) rfl (by first|rfl|(rw[aQ,D4];rfl)|(simp only[go_sem,AV.ji,AV.jY,aQ,D4];first|done|rfl))) (iV.trans (iV.move 8 900000 (ob:=.tok 2 1 r_1.length) iA iA iA rfl (by first|rfl|(simp;done)|(simp[sat,lQ,sset,jz,rS,lU,Ob.jY,Ob.kill,jg];done))) (iV.trans (iV.move 12 900001 (ob:=.lI 22 1 1 (je (List.map (iH 1 iD) [r_2]))) iA iA iA rfl (by first|rfl|(simp;done)|(simp[sat,lQ,sset,jz,rS,lU,Ob.jY,Ob.kill,jg];done))) (iV.trans (iV.Fe 900002 2 1 (.agg [.d (iD 1),.own 1 900000 (List.map iD r_1),.own 1 900001 (List.map (iH 1 iD) [r_2]),.own 1 900002 (List.map iD [])]) (by first|rfl|simp[sat]) (by repeat' (first|exact TW.nil|refine TW.kZ ?_|refine TW.Co ?_|refine TW.agg ?_|refine Bc.cons ?_ ?_|exact Bc.nil|exact TW.refl))) (iV.ou [1,2] (by simp))))))))) (iV.told zP nh)
 cases h;exact iV.trans ((iV.trans (iV.Fe 900000 2 1 (.agg [.d (iD 0),.own 1 900000 (List.map iD []),.d (.sl 0 (some true) []),.d (.sl 0 (some true) [])]) (by first|rfl|simp[sat]) (by repeat' (first|exact TW.nil|refine TW.kZ ?_|refine TW.Co ?_|refine TW.agg ?_|refine Bc.cons ?_ ?_|exact Bc.nil|exact TW.refl))) (iV.trans (iV.IG 900001 22 1 (.agg [.d (iD 0),.own 1 900000 (List.map iD []),.own 1 900001 (List.map (iH 1 iD) []),.d (.sl 0 (some true) [])]) (by first|rfl|simp[sat]) (by repeat' (first|exact TW.nil|refine TW.kZ ?_|refine TW.Co ?_|refine TW.agg ?_|refine Bc.cons ?_ ?_|exact Bc.nil|exact TW.refl))) (iV.trans (iV.Fe 900002 2 1 (.agg [.d (iD 0),.own 1 900000 (List.map iD []),.own 1 900001 (List.map (iH 1 iD) []),.own 1 900002 (List.map iD [])]) (by first|rfl|simp[sat]) (by repeat' (first|exact TW.nil|refine TW.kZ ?_|refine TW.Co ?_|refine TW.agg ?_|refine Bc.cons ?_ ?_|exact Bc.nil|exact TW.refl))) (iV.ou [1,2] (by simp)))))) (iV.told zP nh)⟩
def oc(sys:gW)(top:gI)(iY:Int)(rule:Int)(to:gI)(steps:Int):Option (Int×gI×gJ×gI×Bool):=
 (jr top).bind fun r=>
 (oU sys iY rule r []).bind fun r_1=>
 if r_1.1=true then
  (kI (r,r_1.2)).bind fun r_2=>
  (sN sys r_2 to steps).bind fun r_3=>
  if r_3.2=true then
   (oJ (r,r_1.2) r_3.1).bind fun r_4=>
   (l_ r_4.1).bind fun r_5=>
   some (r_5.1,r_5.2.1,r_5.2.2.1,r_5.2.2.2,r_4.2)
  else
   some (0,[],[],[],false)
 else
  some (0,[],[],[],false)
instance NM{sys:gW}{top:gI}{iY:Int}{rule:Int}{to:gI}{steps:Int}:jf (oc sys top iY rule to steps) fun rr=>iR Tryz.prog 27 [.d (.agg [iH 1 iD sys.1,iH 2 iC sys.2]),.d (iH 1 iD top),.d (iD iY),.d (iD rule),.d (iH 1 iD to),.d (iD steps)] [] 0 fun xx ss=>xx=.kZ [.agg [.d (iD rr.1),.own 1 900000 (List.map iD rr.2.1),.own 1 900001 (List.map (iH 1 iD) rr.2.2.1),.own 1 900002 (List.map iD rr.2.2.2.1)],.d (bD rr.2.2.2.2)]/\ss=[(900000,.tok 2 1 rr.2.1.length),(900001,.lI 22 1 rr.2.2.1.length (je (List.map (iH 1 iD) rr.2.2.1))),(900002,.tok 2 1 rr.2.2.2.1.length)]:=⟨@fun rr h=>by
 delta oc at h;refine adJ.sk (iB ?_);delta ac7;refine jd ?_;refine rC h fun r hr h=>?_
 refine Gk 14 1 300000 95 3 rfl rfl rfl (jd ?_);refine tg [(0,14),(1,300000)] [] h fun r_1 hr_1 h=>?_
 refine it h (fun hc h=>?_) fun hc h=>?_
 ·refine dC h fun r_2 hr_2 h=>?_
  refine dCN h fun r_3 hr_3 h=>?_
  refine jM (by kernel_rfl) (jd ?_);refine it h (fun hc h=>?_) fun hc h=>?_
  ·refine TP h fun r_4 hr_4 h=>?_
   refine tg [] [(900000,45),(900001,200000),(900002,200001)] h fun r_5 hr_5 h=>?_
   cases h;exact iV.trans ((iV.trans (iV.move 45 900000 (ob:=.tok 2 1 r_5.2.1.length) iA iA iA rfl (by first|rfl|(simp;done)|(simp[sat,lQ,sset,jz,rS,lU,Ob.jY,Ob.kill,jg];done))) (iV.trans (iV.move 200000 900001 (ob:=.lI 22 1 r_5.2.2.1.length (je (List.map (iH 1 iD) r_5.2.2.1))) iA iA iA rfl (by first|rfl|(simp;done)|(simp[sat,lQ,sset,jz,rS,lU,Ob.jY,Ob.kill,jg];done))) (iV.trans (iV.move 200001 900002 (ob:=.tok 2 1 r_5.2.2.2.length) iA iA iA rfl (by first|rfl|(simp;done)|(simp[sat,lQ,sset,jz,rS,lU,Ob.jY,Ob.kill,jg];done))) (iV.ou [6,12,14,15,300000] (by simp)))))) (iV.told zP nh)
  cases h;exact iV.trans ((iV.trans (iV.Fe 900000 2 1 (.kZ [.agg [.d (iD 0),.own 1 900000 (List.map iD []),.d (.sl 0 (some true) []),.d (.sl 0 (some true) [])],.d (bD false)]) (by first|rfl|simp[sat]) (by repeat' (first|exact TW.nil|refine TW.kZ ?_|refine TW.Co ?_|refine TW.agg ?_|refine Bc.cons ?_ ?_|exact Bc.nil|exact TW.refl))) (iV.trans (iV.IG 900001 22 1 (.kZ [.agg [.d (iD 0),.own 1 900000 (List.map iD []),.own 1 900001 (List.map (iH 1 iD) []),.d (.sl 0 (some true) [])],.d (bD false)]) (by first|rfl|simp[sat]) (by repeat' (first|exact TW.nil|refine TW.kZ ?_|refine TW.Co ?_|refine TW.agg ?_|refine Bc.cons ?_ ?_|exact Bc.nil|exact TW.refl))) (iV.trans (iV.Fe 900002 2 1 (.kZ [.agg [.d (iD 0),.own 1 900000 (List.map iD []),.own 1 900001 (List.map (iH 1 iD) []),.own 1 900002 (List.map iD [])],.d (bD false)]) (by first|rfl|simp[sat]) (by repeat' (first|exact TW.nil|refine TW.kZ ?_|refine TW.Co ?_|refine TW.agg ?_|refine Bc.cons ?_ ?_|exact Bc.nil|exact TW.refl))) (iV.ou [6,12,14,15,300000] (by simp)))))) (iV.told zP nh)
 cases h;exact iV.trans ((iV.trans (iV.Fe 900000 2 1 (.kZ [.agg [.d (iD 0),.own 1 900000 (List.map iD []),.d (.sl 0 (some true) []),.d (.sl 0 (some true) [])],.d (bD false)]) (by first|rfl|simp[sat]) (by repeat' (first|exact TW.nil|refine TW.kZ ?_|refine TW.Co ?_|refine TW.agg ?_|refine Bc.cons ?_ ?_|exact Bc.nil|exact TW.refl))) (iV.trans (iV.IG 900001 22 1 (.kZ [.agg [.d (iD 0),.own 1 900000 (List.map iD []),.own 1 900001 (List.map (iH 1 iD) []),.d (.sl 0 (some true) [])],.d (bD false)]) (by first|rfl|simp[sat]) (by repeat' (first|exact TW.nil|refine TW.kZ ?_|refine TW.Co ?_|refine TW.agg ?_|refine Bc.cons ?_ ?_|exact Bc.nil|exact TW.refl))) (iV.trans (iV.Fe 900002 2 1 (.kZ [.agg [.d (iD 0),.own 1 900000 (List.map iD []),.own 1 900001 (List.map (iH 1 iD) []),.own 1 900002 (List.map iD [])],.d (bD false)]) (by first|rfl|simp[sat]) (by repeat' (first|exact TW.nil|refine TW.kZ ?_|refine TW.Co ?_|refine TW.agg ?_|refine Bc.cons ?_ ?_|exact Bc.nil|exact TW.refl))) (iV.ou [6,12,14,300000] (by simp)))))) (iV.told zP nh)⟩
end Go.Proofs.YtjgbnaihpicpgabGreat
