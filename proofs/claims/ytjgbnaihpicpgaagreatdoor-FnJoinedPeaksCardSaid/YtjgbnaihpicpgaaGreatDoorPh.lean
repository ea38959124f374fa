/- A part of the proof about FnJoinedPeaks (H3a, H3b, SV). -/
import Derived.Test.YtjgbnaihpicpgaaGreatDoorPc
import Derived.Test.YtjgbnaihpicpgaaGreatDoorPe
import Derived.Tactics
import Derived.Tactics2
import Derived.Defers
import Derived.Recover
import Derived.Laws.Pointers
set_option linter.all false
noncomputable section
namespace Go.Proofs.YtjgbnaihpicpgaaGreatDoor
open Go mm
attribute [local irreducible] rj vP uV mz lN nj kj Au Bm zm Bl yp tF lM nc AJ iS kN sE Ly GJ
set_option maxHeartbeats 4000000
set_option maxRecDepth 4000
def TS:ie:=
 (.seq (.h_ (sq 4 [.mv (.const (.slice none 0 0))])) (.seq (.block 0 (.loop (.seq (.seq (.draw (sq 5 [mv 1,.uE 1 (t0 5) (i0 0),ld 6,bi .lss 7 0,mv 8]++sg 9 true 10 [mv 0,mv 1,.uE 1 (t0 11) (i0 0),ld 12,.bin .sub (i0 (-1)) (t0 13),.me (t0 10),fa 1 15,.xN 1 48 (t0 16) (t0 14),ld 17,.uT true (t0 18)]++sq 20 [pa 9 19]) [[],[0],[1],[2],[3],[4],[4],[6,4],[7,4],[8,4],[5,4],[10,4],[11,9,4],[12,4],[13,4],[4,14]]) (.cond (t0 20) .skip (.exit 0))) (.block 1 (.draw (sq 21 [mv 0,mv 1,.uE 1 (t0 22) (i0 0),ld 23,.bin .sub (i0 (-1)) (t0 24),.me (t0 21),fa 1 26,.xN 1 48 (t0 27) (t0 25),ld 28]++sq 1 [mv 29]) [[],[],[1],[2],[3],[0],[5],[6,4],[7],[8,0,1,2,3,4,5,6,7,8]]))))) (.seq (.h_ (sq 30 [mv 1]++sq 4 [mv 30])) .ret)))
theorem Xv:kH Tryz.prog 158 TS 31 [.tmp 4]:=mf Tryz.func158 Tryz.ntmps158
def lB(ul:gx):gv->Option (gv⊕gv)
 |t_1=>
  if 0<=0/\0<(t_1.length:Int)then
   if(decide ((t_1.getD 0 default)<0))=true then
    if 0<=(IntKind.i64.wrap ((-1)-(t_1.getD 0 default)))/\(IntKind.i64.wrap ((-1)-(t_1.getD 0 default)))<48/\(IntKind.i64.wrap ((-1)-(t_1.getD 0 default)))<(ul.length:Int)then
     if(ul.getD (IntKind.i64.wrap ((-1)-(t_1.getD 0 default))).toNat default).isEmpty=true then
      Option.map Sum.inr (
       some t_1)
     else
      some (.inl (ul.getD (IntKind.i64.wrap ((-1)-(t_1.getD 0 default))).toNat default))
    else none
   else
    Option.map Sum.inr (
     some t_1)
  else none
def lI(t:gv)(u0:gv)(ul:gx):Option gv:=
 iw (lB ul) t
instance HS{t:gv}{u0:gv}{ul:gx}:iR (lI t u0 ul) fun rr=>iC Tryz.prog 158 [.ptr 0 0,.d (ia 1 iD t)] [(0,.obj 195 ((.d (ia 1 iD u0))::List.map (aD (oI 1 iD)) ul))] 1 fun xx ss=>xx=.d (ia 1 iD rr)/\ss=[(0,.obj 195 ((.d (ia 1 iD u0))::List.map (aD (oI 1 iD)) ul))]:=⟨@fun rr h=>by
 delta lI at h;refine Xv.lO (gZ ?_);delta TS;refine iN ?_;refine kT h [1,5,6,7,8,9,10,11,12,13,14,15,16,17,18,19,20,21,22,23,24,25,26,27,28,29] (fun pp=>[(1,.d (ia 1 iD pp))]) (fun pp=>[(0,.obj 195 ((.d (ia 1 iD u0))::List.map (aD (oI 1 iD)) ul))]) ?_;rintro t_1 t1 h hb1;unfold lB at h;try dsimp only at h
 refine gZ (iN ?_);exact mA⟩
def TT:ie:=
 (.seq (.h_ (sq 8 [mb false])) (.seq (.seq (.h_ (sq 12 [mv 2,ln 12,mi 0])) (.block 0 (.loop (.seq (.h_ (sq 15 [bn .lss 14 13])) (.seq (.cond (t0 15) .skip (.exit 0)) (.seq (.block 1 (.seq (.h_ (sq 16 [ix 1 12 14,ld 16]++sq 10 [mv 17])) (.seq (.seq (.h_ (sq 18 [mv 10,mv 1,bn .eql 18 19])) (.cond (t0 20) (.seq (.h_ (sq 8 [mb true])) .ret) .skip)) (.seq (.seq (.h_ (sq 21 [mv 10,bi .geq 21 0,mv 22]++sg 23 false 24 [mv 3,mv 10,.bin .sub (i0 (-1)) (t0 25),.me (t0 24),.xN 1 48 (t0 27) (t0 26),ld 28]++sq 30 [po 23 29])) (.cond (t0 30) (.exit 1) .skip)) (.seq (.h_ (sq 31 [mv 3,mv 10,.bin .sub (i0 (-1)) (t0 32),.me (t0 31),.xN 1 48 (t0 34) (t0 33)]++s0 (.store 1 (t0 35) (.const (.bool true))))) (.seq (.h_ (sq 36 [mv 0,mv 10,.bin .sub (i0 (-1)) (t0 37),.me (t0 36),fa 1 39,.xN 1 48 (t0 40) (t0 38),ld 41]++sq 11 [mv 42])) (.seq (.h_ (sq 43 [mv 11,.uT true (t0 43),mv 44]++sg 45 true 46 [mv 0,mv 1,mv 11,mv 3,cf 159 [46,47,48,49]]++sq 51 [pa 45 50])) (.cond (t0 51) (.seq (.h_ (sq 8 [mb true])) .ret) .skip)))))))) (.h_ (sq 52 [bi .add 14 1]++sq 14 [mv 52])))))))) (.seq (.h_ (sq 8 [mb false])) .ret)))
theorem Xw:kH Tryz.prog 159 TT 53 [.tmp 8]:=mf Tryz.func159 Tryz.ntmps159
def jF(rec:Int->gv->gv->gx->gQ->Option (Bool×gQ))(n:Int)(t:gv)(u0:gv)(ul:gx):(Int×gQ)->Option ((Int×gQ)⊕(Bool×gQ))
 |(v14,n_1)=>
  if(decide (v14<(t.length:Int)))=true then
   if 0<=v14/\v14<(t.length:Int)then
    if((t.getD v14.toNat default)==n)=true then
     Option.map Sum.inr (
      some (true,n_1))
    else
     if(decide (0<=(t.getD v14.toNat default)))=true then
      some (.inl ((IntKind.i64.wrap (v14+1)),n_1))
     else
      if 0<=(IntKind.i64.wrap ((-1)-(t.getD v14.toNat default)))/\(IntKind.i64.wrap ((-1)-(t.getD v14.toNat default)))<48/\(IntKind.i64.wrap ((-1)-(t.getD v14.toNat default)))<(n_1.length:Int)then
       if(n_1.getD (IntKind.i64.wrap ((-1)-(t.getD v14.toNat default))).toNat default)=true then
        some (.inl ((IntKind.i64.wrap (v14+1)),n_1))
       else
        if 0<=(IntKind.i64.wrap ((-1)-(t.getD v14.toNat default)))/\(IntKind.i64.wrap ((-1)-(t.getD v14.toNat default)))<48/\(IntKind.i64.wrap ((-1)-(t.getD v14.toNat default)))<(ul.length:Int)then
         if(ul.getD (IntKind.i64.wrap ((-1)-(t.getD v14.toNat default))).toNat default).isEmpty=true then
          some (.inl ((IntKind.i64.wrap (v14+1)),(n_1.set (IntKind.i64.wrap ((-1)-(t.getD v14.toNat default))).toNat true)))
         else
          (rec n (ul.getD (IntKind.i64.wrap ((-1)-(t.getD v14.toNat default))).toNat default) u0 ul (n_1.set (IntKind.i64.wrap ((-1)-(t.getD v14.toNat default))).toNat true)).bind fun r=>
          if r.1=true then
           Option.map Sum.inr (
            some (true,r.2))
          else
           some (.inl ((IntKind.i64.wrap (v14+1)),r.2))
        else none
      else none
   else none
  else
   Option.map Sum.inr (
    some (false,n_1))
def ji:Nat->Int->gv->gv->gx->gQ->Option (Bool×gQ)
 |0,_,_,_,_,_=>none
 |fu+1,n,t,u0,ul,seen=>
  iw (jF (ji fu) n t u0 ul) (0,seen)
def lQ(n:Int)(t:gv)(u0:gv)(ul:gx)(seen:gQ):Option (Bool×gQ):=Cx fun fu=>ji fu n t u0 ul seen
theorem tM:∀{fu:Nat}{n:Int}{t:gv}{u0:gv}{ul:gx}{seen:gQ}{rr:(Bool×gQ)}(h:ji fu n t u0 ul seen=some rr),iC Tryz.prog 159 [.ptr 0 0,.d (iD n),.d (ia 1 iD t),.ptr 1 0] [(0,.obj 195 ((.d (ia 1 iD u0))::List.map (aD (oI 1 iD)) ul)),(1,.obj 231 (List.map (aD bD) seen))] 2 fun xx ss=>xx=.d (bD rr.1)/\ss=[(0,.obj 195 ((.d (ia 1 iD u0))::List.map (aD (oI 1 iD)) ul)),(1,.obj 231 (List.map (aD bD) rr.2))]
 |0,_,_,_,_,_,_,h=>by cases h
 |fu+1,n,t,u0,ul,seen,rr,h=>by
  have ih:∀{n:Int}{t:gv}{u0:gv}{ul:gx}{seen:gQ},iR (ji fu n t u0 ul seen) fun rr=>iC Tryz.prog 159 [.ptr 0 0,.d (iD n),.d (ia 1 iD t),.ptr 1 0] [(0,.obj 195 ((.d (ia 1 iD u0))::List.map (aD (oI 1 iD)) ul)),(1,.obj 231 (List.map (aD bD) seen))] 2 fun xx ss=>xx=.d (bD rr.1)/\ss=[(0,.obj 195 ((.d (ia 1 iD u0))::List.map (aD (oI 1 iD)) ul)),(1,.obj 231 (List.map (aD bD) rr.2))]:=⟨fun h=>tM h⟩
  unfold ji at h;refine Xw.lO (gZ ?_);delta TT;refine iN ?_;refine kT h [8,10,11,14,15,16,17,18,19,20,21,22,23,24,25,26,27,28,29,30,31,32,33,34,35,36,37,38,39,40,41,42,43,44,45,46,47,48,49,50,51,52] (fun pp=>[(14,.d (iD pp.1))]) (fun pp=>[(0,.obj 195 ((.d (ia 1 iD u0))::List.map (aD (oI 1 iD)) ul)),(1,.obj 231 (List.map (aD bD) pp.2))]) ?_;rintro⟨v14,n_1⟩ t1 h hb1;unfold jF at h;try dsimp only at h
  refine gZ (iN ?_);refine iT h fun hc1 h=>?_
  refine j_ h fun hp h=>?_
  refine iF h fun hc2 h=>?_
  refine iF h fun hc3 h=>?_
  refine j_ h fun hp h=>?_
  refine iF h fun hc4 h=>?_
  refine qa ?_;refine j_ h fun hp h=>?_
  refine iF h fun hc5 h=>?_
  refine rB [(0,0),(1,1)] [] h fun r hr h=>?_
  exact mA
instance D9{n:Int}{t:gv}{u0:gv}{ul:gx}{seen:gQ}:iR (lQ n t u0 ul seen) fun rr=>iC Tryz.prog 159 [.ptr 0 0,.d (iD n),.d (ia 1 iD t),.ptr 1 0] [(0,.obj 195 ((.d (ia 1 iD u0))::List.map (aD (oI 1 iD)) ul)),(1,.obj 231 (List.map (aD bD) seen))] 2 fun xx ss=>xx=.d (bD rr.1)/\ss=[(0,.obj 195 ((.d (ia 1 iD u0))::List.map (aD (oI 1 iD)) ul)),(1,.obj 231 (List.map (aD bD) rr.2))]:=⟨fun h=>tM (t_ h).choose_spec⟩
def TB:ie:=
 (.seq (.h_ (sq 3 [bo 3 30 0]++sq 6 [.mv (.const (.slice none 0 0))])) (.seq (.h_ (sq 7 [.mv (.const (.slice none 0 0))])) (.seq (.h_ (sq 10 [mv 2,bi .add 10 1]++sq 8 [mv 11])) (.seq (.seq (.draw (sq 12 [la 1 3,mv 1,mv 2,ix 1 13 14,ld 15,cf 154 [12,16]]++sq 9 [mv 17]) [[],[],[],[1,2],[3],[0,4],[5,5,0,1,2,3,4,5]]) (.block 0 (.loop (.seq (.seq (.h_ (sq 18 [mv 9,bi .gtr 18 0])) (.cond (t0 19) .skip (.exit 0))) (.seq (.block 1 (.seq (.h_ (sq 22 [mv 7,mv 8,.mP 24 3 1 [(t0 23)],ap 25 3 1 8 22 24]++sq 7 [mv 25])) (.h_ (sq 26 [la 1 3,mv 1,mv 8,cf 127 [26,27,28]]++sq 8 [mv 29])))) (.h_ (sq 20 [mv 9,bi .sub 20 1]++sq 9 [mv 21]))))))) (.seq (.h_ (sq 30 [mv 7]++sq 6 [mv 30])) .ret)))))
theorem Xd:kH Tryz.prog 136 TB 31 [.tmp 6]:=mf Tryz.func136 Tryz.ntmps136
def jX(sig:gv)(t:gv):gB->Option (gB⊕gv)
 |(out,next',n)=>
  if(decide (0<n))=true then
   if(out.length+1)*8<=140737488355328 then
    (lz sig t next').bind fun r_1=>
    some (.inl ((out++[next']),r_1,(IntKind.i64.wrap (n-1))))
   else none
  else
   Option.map Sum.inr (
    some out)
def lq(sig:gv)(t:gv)(at':Int):Option gv:=
 if 0<=at'/\at'<(t.length:Int)then
  (ny sig (t.getD at'.toNat default)).bind fun r=>
  iw (jX sig t) ([],(IntKind.i64.wrap (at'+1)),r)
 else none
instance PW{sig:gv}{t:gv}{at':Int}:iR (lq sig t at') fun rr=>jU Tryz.prog 136 [jd sig,(ia 1 iD) t,iD at'] ((ia 1 iD) rr):=⟨@fun rr h=>by
 delta lq at h;refine Xd.jC (gZ ?_);delta TB;refine iN ?_;refine j_ h fun hp h=>?_
 refine dC h fun r hr h=>?_
 refine jV (by kernel_rfl) (iN ?_);refine um h [7,8,9,18,19,20,21,22,23,24,25,26,27,28,29] (fun pp=>[(7,.own 1 25 (List.map iD pp.1)),(8,.d (iD pp.2.1)),(9,.d (iD pp.2.2))]) (fun pp=>[(3,.obj 30 [.d (ia 1 iD sig)]),(25,.tok 3 1 pp.1.length)]) ?_ ?_
 ·try dsimp only
  refine(iL.Mj 7 25 3 1 rfl rfl).trans ?_;exact wk
 rintro⟨out,next',n⟩ t1 h hb1;unfold jX at h;try dsimp only at h
 refine gZ (iN ?_);refine iT h fun hc1 h=>?_
 refine j_ h fun hp h=>?_
 refine rC h fun r_1 hr_1 h=>?_
 cases h;refine⟨_,rfl,?_⟩;refine(iL.drop 24 gY).trans ?_;exact wk⟩
def q_:ie:=
 (.seq (.h_ (sq 9 [mv 0,mv 1,cf 158 [9,10],mv 0,mv 2,cf 158 [12,13]]++sq 1 [mv 11,mv 14])) (.seq (.seq (.draw (sq 15 [mv 1,.uE 1 (t0 15) (i0 0),ld 16,mv 2,.uE 1 (t0 18) (i0 0),ld 19,bn .eql 17 20,mv 21]++sg 22 true 23 [mv 1,.uE 1 (t0 23) (i0 0),ld 24,bi .lss 25 0]++sq 27 [pa 22 26]) [[],[0],[1],[],[3],[4],[2,5],[6],[7],[8,7],[9,7],[10,7],[7,11]]) (.cond (t0 27) .ret .skip)) (.seq (.seq (.draw (sq 28 [mv 2,.uE 1 (t0 28) (i0 0),ld 29,bi .lss 30 0,mv 31]++sg 32 true 33 [mv 1,.uE 1 (t0 33) (i0 0),ld 34,bi .geq 35 0,mv 36]++sg 37 false 38 [mv 2,.uE 1 (t0 38) (i0 0),ld 39,mv 1,.uE 1 (t0 41) (i0 0),ld 42,bn .lss 40 43]++sg 32 true 45 [po 37 44]++sq 46 [pa 32 45]) [[],[0],[1],[2],[3],[4],[5,4],[6,4],[7,4],[8,4,4],[9],[10,9],[11,9],[9],[13,9],[14,9],[12,15,9],[9,16,4],[4,17]]) (.cond (t0 46) (.h_ (sq 47 [mv 2,mv 1]++sq 1 [mv 47,mv 48])) .skip)) (.seq (.seq (.h_ (sq 49 [mv 1,.uE 1 (t0 49) (i0 0),ld 50,bi .lss 51 0])) (.cond (t0 52) (.seq (.seq (.h_ (sq 53 [mv 2,.uE 1 (t0 53) (i0 0),ld 54,bi .geq 55 0,mv 56]++sg 57 true 58 [mv 0,mv 1,.uE 1 (t0 59) (i0 0),ld 60,mv 2,.build [.lit (.bool false),.lit (.bool false),.lit (.bool false),.lit (.bool false),.lit (.bool false),.lit (.bool false),.lit (.bool false),.lit (.bool false),.lit (.bool false),.lit (.bool false),.lit (.bool false),.lit (.bool false),.lit (.bool false),.lit (.bool false),.lit (.bool false),.lit (.bool false),.lit (.bool false),.lit (.bool false),.lit (.bool false),.lit (.bool false),.lit (.bool false),.lit (.bool false),.lit (.bool false),.lit (.bool false),.lit (.bool false),.lit (.bool false),.lit (.bool false),.lit (.bool false),.lit (.bool false),.lit (.bool false),.lit (.bool false),.lit (.bool false),.lit (.bool false),.lit (.bool false),.lit (.bool false),.lit (.bool false),.lit (.bool false),.lit (.bool false),.lit (.bool false),.lit (.bool false),.lit (.bool false),.lit (.bool false),.lit (.bool false),.lit (.bool false),.lit (.bool false),.lit (.bool false),.lit (.bool false),.lit (.bool false)] [],bo 64 231 63,cf 159 [58,61,62,64]]++sq 66 [pa 57 65])) (.cond (t0 66) (.ghost (.h_ (sq 67 [.build [] [],.A3 217 (t0 67)]++s0 (.Eb (t0 68))))) .skip)) (.seq (.draw (sq 69 [mv 0,mv 1,.uE 1 (t0 70) (i0 0),ld 71,.bin .sub (i0 (-1)) (t0 72),mv 2,.me (t0 69),fa 1 75,.xN 1 48 (t0 76) (t0 73)]++s0 (sr 1 77 74)) [[],[],[1],[2],[3],[],[0],[6],[7,4,0,1,2,3,4,5],[8,5,0,1,2,3,4,5]]) .ret)) .skip)) (.seq (.seq (.draw (sq 78 [mv 1,.uE 1 (t0 78) (i0 0),ld 79,mv 2,.uE 1 (t0 81) (i0 0),ld 82,bn .neq 80 83]) [[],[0],[1],[],[3],[4],[2,5]]) (.cond (t0 84) (.ghost (.h_ (sq 85 [.build [] [],.A3 217 (t0 85)]++s0 (.Eb (t0 86))))) .skip)) (.seq (.draw (sq 87 [mv 0,.me (t0 87),fa 0 88,la 1 89,mv 1,.kA 136 [(t0 90),(t0 91),(i0 0)],mv 0,.me (t0 93),fa 0 94,la 1 95,mv 2,.kA 136 [(t0 96),(t0 97),(i0 0)]]++sq 6 [mv 92,mv 98]) [[],[0],[1],[2],[],[3,4],[],[6],[7],[8],[],[9,10,5],[5,11,0,1,2,3,4,5],[11,12,0,1,2,3,4,5,6,7,8,9,10,11,12]]) (.seq (.h_ (sq 99 [mv 6,ln 99,mi 0])) (.block 0 (.loop (.seq (.h_ (sq 102 [bn .lss 101 100])) (.seq (.cond (t0 102) .skip (.exit 0)) (.seq (.block 1 (.seq (.h_ (sq 103 [mv 101]++sq 8 [mv 103])) (.ghost (.draw (sq 104 [mv 0,mv 0,.me (t0 105),fa 0 106,la 1 107,mv 1,mv 6,mv 8,ix 1 110 111,ld 112,cf 130 [108,109,113],mv 0,.me (t0 115),fa 0 116,la 1 117,mv 2,mv 7,mv 8,ix 1 120 121,ld 122,cf 130 [118,119,123],cf 146 [104,114,124]]) [[],[],[1],[2],[3],[],[],[],[6,7],[8],[4,5,9],[],[11],[12],[13],[],[],[],[16,17],[18],[14,15,19,10],[0,10,20,20]])))) (.h_ (sq 126 [bi .add 101 1]++sq 101 [mv 126]))))))))))))))
theorem vR:kH Tryz.prog 146 q_ 127 []:=mf Tryz.func146 Tryz.ntmps146
def jE(rec:gv->gv->gv->gx->Option (gx⊕gx))(u0:gv)(r:gv)(r_1:gv)(r_18:gv)(r_19:gv):(Int×gx)->Option ((Int×gx)⊕(gx⊕gx))
 |(v101_3,u_3)=>
  if(decide (v101_3<(r_18.length:Int)))=true then
   if 0<=v101_3/\v101_3<(r_18.length:Int)then
    (kg u0 r (r_18.getD v101_3.toNat default)).bind fun r_20=>
    if 0<=v101_3/\v101_3<(r_19.length:Int)then
     (kg u0 r_1 (r_19.getD v101_3.toNat default)).bind fun r_21=>
     (rec r_20 r_21 u0 u_3).bind (Sum.elim (fun rt_3=>
      some (.inl ((IntKind.i64.wrap (v101_3+1)),rt_3))) (fun rf_3=>
      Option.map Sum.inr (
       some (.inr rf_3))))
    else none
   else none
  else
   Option.map Sum.inr (
    some (.inl u_3))
def iO:Nat->gv->gv->gv->gx->Option (gx⊕gx)
 |0,_,_,_,_=>none
 |fu+1,a,b,u0,ul=>
  (lI a u0 ul).bind fun r=>
  (lI b u0 ul).bind fun r_1=>
  if 0<=0/\0<(r.length:Int)then
   if 0<=0/\0<(r_1.length:Int)then
    if((r.getD 0 default)==(r_1.getD 0 default))=true then
     if(decide ((r.getD 0 default)<0))=true then
      some (.inl ul)
     else
      (lq u0 r 0).bind fun r_18=>
      (lq u0 r_1 0).bind fun r_19=>
      iw (jE (iO fu) u0 r r_1 r_18 r_19) (0,ul)
    else
     if(decide ((r_1.getD 0 default)<0))=true then
      if(decide (0<=(r.getD 0 default)))=true then
       (lQ (r_1.getD 0 default) r u0 ul (List.replicate 48 false)).bind fun r_22=>
       if r_22.1=true then
        some (.inr ul)
       else
        if 0<=(IntKind.i64.wrap ((-1)-(r_1.getD 0 default)))/\(IntKind.i64.wrap ((-1)-(r_1.getD 0 default)))<48/\(IntKind.i64.wrap ((-1)-(r_1.getD 0 default)))<(ul.length:Int)then
         if 0<r.length then
          some (.inl (ul.set (IntKind.i64.wrap ((-1)-(r_1.getD 0 default))).toNat r))
         else none
        else none
      else
       if(decide ((r_1.getD 0 default)<(r.getD 0 default)))=true then
        if 0<=(IntKind.i64.wrap ((-1)-(r_1.getD 0 default)))/\(IntKind.i64.wrap ((-1)-(r_1.getD 0 default)))<48/\(IntKind.i64.wrap ((-1)-(r_1.getD 0 default)))<(ul.length:Int)then
         if 0<r.length then
          some (.inl (ul.set (IntKind.i64.wrap ((-1)-(r_1.getD 0 default))).toNat r))
         else none
        else none
       else
        if 0<=(IntKind.i64.wrap ((-1)-(r.getD 0 default)))/\(IntKind.i64.wrap ((-1)-(r.getD 0 default)))<48/\(IntKind.i64.wrap ((-1)-(r.getD 0 default)))<(ul.length:Int)then
         if 0<r_1.length then
          some (.inl (ul.set (IntKind.i64.wrap ((-1)-(r.getD 0 default))).toNat r_1))
         else none
        else none
     else
      if(decide ((r.getD 0 default)<0))=true then
       (lQ (r.getD 0 default) r_1 u0 ul (List.replicate 48 false)).bind fun r_37=>
       if r_37.1=true then
        some (.inr ul)
       else
        if 0<=(IntKind.i64.wrap ((-1)-(r.getD 0 default)))/\(IntKind.i64.wrap ((-1)-(r.getD 0 default)))<48/\(IntKind.i64.wrap ((-1)-(r.getD 0 default)))<(ul.length:Int)then
         if 0<r_1.length then
          some (.inl (ul.set (IntKind.i64.wrap ((-1)-(r.getD 0 default))).toNat r_1))
         else none
        else none
      else
       some (.inr ul)
   else none
  else none
def jS(a:gv)(b:gv)(u0:gv)(ul:gx):Option (gx⊕gx):=Cx fun fu=>iO fu a b u0 ul
theorem tL:∀{fu:Nat}{a:gv}{b:gv}{u0:gv}{ul:gx}{rr:(gx⊕gx)}(h:iO fu a b u0 ul=some rr),By (.iface 217 (.agg #[])) Tryz.prog 146 [.ptr 0 0,.d (ia 1 iD a),.d (ia 1 iD b)] [(0,.obj 195 ((.d (ia 1 iD u0))::List.map (aD (oI 1 iD)) ul))] 1 (fun rr:gx=>.mj []) (fun rr:gx=>[(0,.obj 195 ((.d (ia 1 iD u0))::List.map (aD (oI 1 iD)) rr))]) (fun rr:gx=>[(0,.obj 195 ((.d (ia 1 iD u0))::List.map (aD (oI 1 iD)) rr))]) rr
 |0,_,_,_,_,_,h=>by cases h
 |fu+1,a,b,u0,ul,rr,h=>by
  have ih:∀{a:gv}{b:gv}{u0:gv}{ul:gx},iR (iO fu a b u0 ul) fun rr=>By (.iface 217 (.agg #[])) Tryz.prog 146 [.ptr 0 0,.d (ia 1 iD a),.d (ia 1 iD b)] [(0,.obj 195 ((.d (ia 1 iD u0))::List.map (aD (oI 1 iD)) ul))] 1 (fun rr:gx=>.mj []) (fun rr:gx=>[(0,.obj 195 ((.d (ia 1 iD u0))::List.map (aD (oI 1 iD)) rr))]) (fun rr:gx=>[(0,.obj 195 ((.d (ia 1 iD u0))::List.map (aD (oI 1 iD)) rr))]) rr:=⟨fun h=>tL h⟩
  unfold iO at h;refine vR.SH (gZ ?_);delta q_;refine iN ?_;refine rB [(0,0)] [] h fun r hr h=>?_
  refine rB [(0,0)] [] h fun r_1 hr_1 h=>?_
  refine j_ h fun hp h=>?_
  refine j_ h fun hp h=>?_
  refine it h (fun hc1 h=>?_) fun hc1 h=>?_
  ·refine qa ?_;refine jV (by kernel_rfl) (iN ?_);refine it h (fun hc2 h=>?_) fun hc2 h=>?_
   ·cases h;exact jw.trans (jw.refl) (jw.told El mT)
   refine qa ?_;have hc:(decide ((r_1.getD 0 default)<0))=false:=by simp only[bw,dZ,fP,av,cm,bW,cP]at hc1 hc2⊢;omega
   refine rz hc ?_;refine jV (by kernel_rfl) (iN ?_);refine qa ?_;have hc:=hc2;refine rz hc ?_;refine qa ?_;refine qa ?_;refine jV (by kernel_rfl) (iN ?_);have hc:((r.getD 0 default) != (r_1.getD 0 default))=false:=by simp only[bw,dZ,fP,av,cm,bW,cP]at hc1 hc2⊢;omega
   refine rz hc ?_;refine qa ?_;refine dC h fun r_18 hr_18 h=>?_
   refine qa ?_;refine dC h fun r_19 hr_19 h=>?_
   refine jV (by kernel_rfl) (iN ?_);refine kT h [8,101,102,103,104,105,106,107,108,109,110,111,112,113,114,115,116,117,118,119,120,121,122,123,124,125,126] (fun pp=>[(101,.d (iD pp.1))]) (fun pp=>[(0,.obj 195 ((.d (ia 1 iD u0))::List.map (aD (oI 1 iD)) pp.2))]) ?_;rintro⟨v101_3,u_3⟩ t1 h hb1;unfold jE at h;try dsimp only at h
   refine gZ (iN ?_);refine it h (fun hc3 h=>?_) fun hc3 h=>?_
   ·refine kj.mw .refl (Ry (ms:=(sq 104 [mv 0,mv 0,.me (t0 105),fa 0 106,la 1 107,mv 1,mv 6,mv 8,ix 1 110 111,ld 112,cf 130 [108,109,113],mv 0,.me (t0 115),fa 0 116,la 1 117,mv 2,mv 7,mv 8,ix 1 120 121,ld 122,cf 130 [118,119,123]])) (m0:=⟨some 125,cf 146 [104,114,124],none⟩) (.iface 217 (.agg #[])) (by kernel_rfl) rfl (by kernel_rfl) (iN ?_));refine qa ?_;refine j_ h fun hp h=>?_
    refine dC h fun r_20 hr_20 h=>?_
    refine qa ?_;refine j_ h fun hp h=>?_
    refine dC h fun r_21 hr_21 h=>?_
    refine Ly.of (by kernel_rfl) ?_;refine sE.call [(0,0)] [] h (fun rt_3 hrt_3 h=>iN ?_) (fun rf_3 hrf_3 h=>iN ?_) rfl (by decide) (by decide) (by simp[sat]) (by exact mT) (by exact mT)
    ·exact mA
    replace h:=iZ h hb1;cases h;refine Fq ?_;exact jw.trans (jw.refl) (jw.told El mT)
   replace h:=iZ h hb1;cases h;exact jw.trans (jw.refl) (jw.told El mT)
  refine jV (by kernel_rfl) (iN ?_);refine qa ?_;refine it h (fun hc4 h=>?_) fun hc4 h=>?_
  ·refine qa ?_;refine it h (fun hc5 h=>?_) fun hc5 h=>?_
   ·refine jV (by kernel_rfl) (iN ?_);refine qa ?_;have hc:=hc4;refine rz hc ?_;refine qa ?_;have hc:=hc5;refine rz hc ?_;refine qa ?_;refine Df (s':=[(0,.obj 195 ((.d (ia 1 iD u0))::List.map (aD (oI 1 iD)) ul)),(64,.obj 231 (List.map (aD bD) (List.replicate 48 false)))]) ?_ ?_
    ·exact mT
    refine rB [(0,0),(1,64)] [] h fun r_22 hr_22 h=>?_
    refine it h (fun hc6 h=>?_) fun hc6 h=>?_
    ·refine kj.mw .refl (I8 (ms:=(sq 67 [.build [] [],.A3 217 (t0 67)])) (m:=⟨none,.Eb (t0 68),none⟩) (.iface 217 (.agg #[])) rfl (oA (iN ?_)));refine sE.Eb rfl rfl (iN ?_);cases h;refine Fq ?_;exact jw.trans ((jw.zX [64] (by simp))) (jw.told El mT)
    refine qa ?_;refine j_ h fun hp h=>?_
    refine j_ h fun hp h=>?_
    refine jV (by kernel_rfl) (iN ?_);cases h;exact jw.trans ((jw.trans (jw.told (t:=[(0,.obj 195 ((.d (ia 1 iD u0))::List.map (aD (oI 1 iD)) (ul.set (IntKind.i64.wrap ((-1)-(r_1.getD 0 default))).toNat r))),(64,.obj 231 (List.map (aD bD) r_22.2))]) (AV.le_refl _) (by exact(zR ⟨rfl,CH gY (by first|exact(zC gY).2 trivial|exact(vE gY).2 trivial)⟩ (zR (zJ.refl _) CC)))) (jw.zX [64] (by simp)))) (jw.told El mT)
   refine qa ?_;refine qa ?_;refine jV (by kernel_rfl) (iN ?_);refine it h (fun hc7 h=>?_) fun hc7 h=>?_
   ·refine qa ?_;have hc:=hc4;refine rz hc ?_;refine qa ?_;have hc:=hc5;refine rz hc ?_;refine qa ?_;refine j_ h fun hp h=>?_
    refine j_ h fun hp h=>?_
    refine jV (by kernel_rfl) (iN ?_);cases h;exact jw.trans ((jw.told (t:=[(0,.obj 195 ((.d (ia 1 iD u0))::List.map (aD (oI 1 iD)) (ul.set (IntKind.i64.wrap ((-1)-(r_1.getD 0 default))).toNat r)))]) (AV.le_refl _) (by exact(zR ⟨rfl,CH gY (by first|exact(zC gY).2 trivial|exact(vE gY).2 trivial)⟩ CC)))) (jw.told El mT)
   refine qa ?_;have hc:(decide ((r.getD 0 default)<0))=true:=by simp only[bw,dZ,fP,av,cm,bW,cP]at hc1 hc4 hc5 hc7⊢;omega
   refine rz hc ?_;refine qa ?_;have hc:(decide (0<=(r_1.getD 0 default)))=false:=by simp only[bw,dZ,fP,av,cm,bW,cP]at hc1 hc4 hc5 hc7⊢;omega
   refine rz hc ?_;refine qa ?_;refine j_ h fun hp h=>?_
   refine j_ h fun hp h=>?_
   refine jV (by kernel_rfl) (iN ?_);cases h;exact jw.trans ((jw.told (t:=[(0,.obj 195 ((.d (ia 1 iD u0))::List.map (aD (oI 1 iD)) (ul.set (IntKind.i64.wrap ((-1)-(r.getD 0 default))).toNat r_1)))]) (AV.le_refl _) (by exact(zR ⟨rfl,CH gY (by first|exact(zC gY).2 trivial|exact(vE gY).2 trivial)⟩ CC)))) (jw.told El mT)
  refine jV (by kernel_rfl) (iN ?_);refine qa ?_;refine it h (fun hc8 h=>?_) fun hc8 h=>?_
  ·refine qa ?_;have hc:(decide (0<=(r_1.getD 0 default)))=true:=by simp only[bw,dZ,fP,av,cm,bW,cP]at hc1 hc4 hc8⊢;omega
   refine rz hc ?_;refine qa ?_;refine Df (s':=[(0,.obj 195 ((.d (ia 1 iD u0))::List.map (aD (oI 1 iD)) ul)),(64,.obj 231 (List.map (aD bD) (List.replicate 48 false)))]) ?_ ?_
   ·exact mT
   refine rB [(0,0),(1,64)] [] h fun r_37 hr_37 h=>?_
   refine it h (fun hc9 h=>?_) fun hc9 h=>?_
   ·refine kj.mw .refl (I8 (ms:=(sq 67 [.build [] [],.A3 217 (t0 67)])) (m:=⟨none,.Eb (t0 68),none⟩) (.iface 217 (.agg #[])) rfl (oA (iN ?_)));refine sE.Eb rfl rfl (iN ?_);cases h;refine Fq ?_;exact jw.trans ((jw.zX [64] (by simp))) (jw.told El mT)
   refine qa ?_;refine j_ h fun hp h=>?_
   refine j_ h fun hp h=>?_
   refine jV (by kernel_rfl) (iN ?_);cases h;exact jw.trans ((jw.trans (jw.told (t:=[(0,.obj 195 ((.d (ia 1 iD u0))::List.map (aD (oI 1 iD)) (ul.set (IntKind.i64.wrap ((-1)-(r.getD 0 default))).toNat r_1))),(64,.obj 231 (List.map (aD bD) r_37.2))]) (AV.le_refl _) (by exact(zR ⟨rfl,CH gY (by first|exact(zC gY).2 trivial|exact(vE gY).2 trivial)⟩ (zR (zJ.refl _) CC)))) (jw.zX [64] (by simp)))) (jw.told El mT)
  refine qa ?_;refine qa ?_;refine jV (by kernel_rfl) (iN ?_);have hc:((r.getD 0 default) != (r_1.getD 0 default))=true:=by simp only[bw,dZ,fP,av,cm,bW,cP]at hc1 hc4 hc8⊢;omega
  refine rz hc ?_;refine kj.mw .refl (I8 (ms:=(sq 85 [.build [] [],.A3 217 (t0 85)])) (m:=⟨none,.Eb (t0 86),none⟩) (.iface 217 (.agg #[])) rfl (oA (iN ?_)));refine sE.Eb rfl rfl (iN ?_);cases h;refine Fq ?_;exact jw.trans (jw.refl) (jw.told El mT)
instance D8{a:gv}{b:gv}{u0:gv}{ul:gx}:iR (jS a b u0 ul) fun rr=>By (.iface 217 (.agg #[])) Tryz.prog 146 [.ptr 0 0,.d (ia 1 iD a),.d (ia 1 iD b)] [(0,.obj 195 ((.d (ia 1 iD u0))::List.map (aD (oI 1 iD)) ul))] 1 (fun rr:gx=>.mj []) (fun rr:gx=>[(0,.obj 195 ((.d (ia 1 iD u0))::List.map (aD (oI 1 iD)) rr))]) (fun rr:gx=>[(0,.obj 195 ((.d (ia 1 iD u0))::List.map (aD (oI 1 iD)) rr))]) rr:=⟨fun h=>tL (t_ h).choose_spec⟩
end Go.Proofs.YtjgbnaihpicpgaaGreatDoor
namespace Go.Proofs.YtjgbnaihpicpgaaGreatDoor
open Go mm
set_option maxHeartbeats 4000000
set_option maxRecDepth 20000
theorem QY(p:Addr)(x:Bool)(w:World)(hc:w.cell? p=some (.bool x))(hz:w.frozen? p=false):
 CallsD Tryz.prog 145 #[.pointer (some p)] (.panicking [{v:=.iface 217 (.agg #[]),recovered:=false}]) w fun e u' w'=>
  e=.returned (.tuple #[])/\u'=.panicking [{v:=.iface 217 (.agg #[]),recovered:=true}]/\w'=(w.alloc (.cells #[] 217)).setCell p (.bool false):=by
 have hta:∀w:World,(Instr.typeAssert (.iface 217 (.agg #[])) 20 217 true).run Tryz.prog w=.ok (.tuple #[.agg #[],.bool true]) w:=fun w=>by rfl
 refine callsD_of_wpS Tryz.func145 rfl fun c₀ cs hu=>?_
 apply wpS_seq;apply wpS_region;simp[wpOpsS,go_sem,recoverD,hu,Tryz.ntmps145,Exit.thenS];refine wpS_of_wp ?_;have hb:p.block<w.heap.size:=by
  obtain⟨b,o,r⟩:=p;unfold World.cell? at hc;cases hq:w.heap[b]? with
  |none=>simp[hq]at hc
  |some x=>exact(aV.1 hq).1
 have hc':(w.alloc (Obj.cells #[] 217)).cell? p=some (.bool x):=(bZ w _ _ hb).trans hc;have hz':(w.alloc (Obj.cells #[] 217)).frozen? p=false:=by rw[Go.RowKit.frozen?_alloc_cells];exact hz
 go_wp2
 simp[bodyPostS,results,Tryz.results145]
theorem QX(p:Addr)(w:World):
 CallsD Tryz.prog 145 #[.pointer (some p)] .returning w fun e u' w'=>e=.returned (.tuple #[])/\u'=.returning/\w'=w:=by
 refine callsD_of_wpS Tryz.func145 rfl fun c₀ cs hu=>?_
 apply wpS_seq;apply wpS_region;simp[wpOpsS,go_sem,recoverD,hu,Tryz.ntmps145,Exit.thenS];refine wpS_of_wp ?_
 go_wp2
 cases c₀
 simp_all[bodyPostS,results,Tryz.results145]
section
variable{C:Ctx}{β:iE}{s:ij}{w w':World}{n:Nat}
def Wj(C:Ctx)(β:iE)(s:ij)(n:Nat)(w:World):Ctx:={O:=fun b o=>C.O b o\/b=n,β:=β,s:=s,w:=w,k:=C.k}
def Vp(s:ij):Prop:=∀id,sat s id=.dead\/∃t cs,sat s id=.obj t cs
theorem UZ(h:Inv C β s w)(hs:Vp s){o:Obj}(hsz:n=w.heap.size):Inv (Wj C β s n (w.alloc o)) β s (w.alloc o):=by
 have hio:yo (w.alloc o)=yo w:=rfl;have h1:Inv C β s (w.alloc o):=h.grown (by simp) hio fun b hb=>aS w o b hb
 have h2:=h1.here (K:=C.k);refine⟨aF _,rfl,(h.GO.mono fun b o v hc hn=>⟨(bZ w _ _ (jW hc)).trans hc,fun hq=>by
  have hb':=jW hc;rcases hq with(hq|hq)|hq
  ·exact hn (.inl hq)
  ·have:b<w.heap.size:=hb';omega
  ·exact hn (.inr hq)⟩),fun _ _ _ h _=>h,fun _ _ _=>rfl,h2.pO,h2.tB,h2.pl,fun b o hO=>?_,fun id=>?_,h2.inj⟩
 ·rcases hO with hO|hO
  ·exact h2.low b o hO
  ·subst hO;refine⟨by show b<(w.alloc _).heap.size;simp;omega,fun hown=>?_⟩;have:=h.BR hown;omega
 ·have ho:=h.obs id;rcases hs id with hd|⟨t,cs,hd⟩
  ·rw[hd]at ho⊢;exact ho
  ·rw[hd]at ho⊢;obtain⟨b,vs,g1,g2,g3,g4⟩:=ho;have hb:b<w.heap.size:=(aV.1 g2).1;refine⟨b,vs,g1,(aS w o b hb).trans g2,g3,g4.imp fun vs hv=>AV.jy (fun b o v hc hn=>?_) (fun _=>.refl _) _ _ hv⟩;have hb':=jW hc;refine⟨(bZ w _ _ hb').trans hc,fun hq=>?_⟩;rcases hq with(hq|hq)|hq
   ·exact hn (.inl hq)
   ·have hb'':b<w.heap.size:=hb';omega
   ·exact hn (.inr hq)
theorem Rh{β2:iE}{s2:ij}{w1 w2 w3:World}(h0:Inv C β s w)(hsz:n=w.heap.size)(hn1:n<w1.heap.size)(hk1:∀b,b<w.heap.size->w1.heap[b]?=w.heap[b]?)(hio1:yo w1=yo w)(h:Inv (Wj C β s n w1) β2 s2 w2)(hs:Vp s2)
 (h3:w2.heap.size<=w3.heap.size) (hio3:yo w3=yo w2) (hk3:∀b,b<w2.heap.size->b≠n->w3.heap[b]?=w2.heap[b]?):Inv C β2 s2 w3:=by
 have hw:w.heap.size<=w1.heap.size:=by omega
 have hcell1:∀b o v,w.cell? ⟨b,o,none⟩=some v->w1.cell? ⟨b,o,none⟩=some v:=fun b o v hc=>(bJ (hk1 b (jW hc))).trans hc
 have hcell3:∀b o v,w2.cell? ⟨b,o,none⟩=some v->b≠n->w3.cell? ⟨b,o,none⟩=some v:=fun b o v hc hb=>(bJ (hk3 b (jW hc) hb)).trans hc
 have hsz2:w1.heap.size<=w2.heap.size:=h.size;have hback:Inv {C with β:=β,s:=s,w:=w,k:=C.k} β2 s2 w3:=by
  refine⟨by show w.heap.size<=_;omega,by rw[hio3];exact h.io.trans hio1,h0.GO,fun b o v hc hno=>?_,fun b hb hno=>?_,fun b o ho=>?_,fun id b hb=>?_,h.pl,fun b o ho=>?_,fun id=>?_,h.inj⟩
  ·have hb:b<w.heap.size:=jW hc;exact hcell3 b o v (h.keep b o v (hcell1 b o v hc) hno) gY
  ·have hb':b<w.heap.size:=hb;exact(hk3 b gY gY).trans ((h.qq b (by show b<w1.heap.size;omega) hno).trans (hk1 b hb'))
  ·rcases h.pO b o ho with g|g
   ·exact .inl g
   ·refine .inr ?_;have:w1.heap.size<=b:=g;show w.heap.size<=b;omega
  ·rcases h.tB id b hb with g|g
   ·exact .inl g
   ·refine .inr ?_;have:w1.heap.size<=b:=g;show w.heap.size<=b;omega
  ·have g:=(h0.here (K:=C.k)).low b o ho;exact g
  ·have ho:=h.obs id;rcases hs id with hd|⟨t,cs,hd⟩
   ·rw[hd]at ho⊢;exact ho
   ·have hbo:∀b,β2 id=.F5 b->b≠n:=fun b hb e=>by
     have hblk:ic β2 s2 id b:=by unfold ic;rw[hd];exact hb
     rcases h.tB id b hblk with⟨i,g⟩|g
     ·have:=h0.tf (show ic β s i b from g);omega
     ·have:w1.heap.size<=b:=g;omega
    rw[hd]at ho⊢;obtain⟨b,vs,g1,g2,g3,g4⟩:=ho;refine⟨b,vs,g1,(hk3 b (aV.1 g2).1 (hbo b g1)).trans g2,g3,g4.imp fun vs hv=>AV.jy (fun b o v hc hn=>?_) (fun _=>.refl _) _ _ hv⟩;have hbn:b≠n:=fun e=>hn (.inl (.inr e))
    refine⟨hcell3 b o v hc hbn,fun hq=>?_⟩;rcases hq with hq|hq
    ·exact hn (.inl (.inl hq))
    ·exact hn (.inr hq)
 exact h0.back hback (aF _)
end
theorem HC{a b u0:gv}{ul:List gv}{rr:List gv⊕List gv}
 (hc:By (.iface 217 (.agg #[])) Tryz.prog 146 [.ptr 0 0,.d (ia 1 iD a),.d (ia 1 iD b)] [(0,.obj 195 ((.d (ia 1 iD u0))::List.map (aD (oI 1 iD)) ul))] 1 (fun rr:gx=>.mj []) (fun rr:gx=>[(0,.obj 195 ((.d (ia 1 iD u0))::List.map (aD (oI 1 iD)) rr))]) (fun rr:gx=>[(0,.obj 195 ((.d (ia 1 iD u0))::List.map (aD (oI 1 iD)) rr))]) rr):
 iC Tryz.prog 129 [.ptr 0 0,.d (ia 1 iD a),.d (ia 1 iD b)] [(0,.obj 195 ((.d (ia 1 iD u0))::List.map (aD (oI 1 iD)) ul))] 1 fun xx ss=>xx=.d (bD (Sum.elim (fun _=>true) (fun _=>false) rr))/\ss=[(0,.obj 195 ((.d (ia 1 iD u0))::List.map (aD (oI 1 iD)) (Sum.elim id id rr)))]:=by
 intro C vs hCs hCk hinv hargs;have hargs':=hargs;simp only[AV.iK]at hargs';obtain⟨v0,r0,e0,h0,v1,r1,e1,h1,v2,r2,e2,h2,e3⟩:=hargs';subst e3 e2 e1;have hvs:vs=#[v0,v1,v2]:=cz (by simpa using e0);subst hvs;have hmf:∀(fn:Fn)(first cap:Array Value)(w:World),(Instr.makeFunc fn first cap).run Tryz.prog w=.ok (.func fn first cap) w:=fun _ _ _ _=>rfl
 have hobjs:Vp C.s:=fun id=>by
  rw[hCs];by_cases hi:id=0
  ·subst hi;exact .inr ⟨_,_,rfl⟩
  ·left;simp[sat,hi]
 have hin:=UZ (n:=C.w.heap.size) hinv hobjs (o:=.cells #[.bool false] 4) rfl;have hargs1:AV.iK C.β ((Wj C C.β C.s C.w.heap.size (C.w.alloc (.cells #[.bool false] 4))).ir C.β C.s) (C.w.alloc (.cells #[.bool false] 4)) [.ptr 0 0,.d (ia 1 iD a),.d (ia 1 iD b)] [v0,v1,v2]:=
  AV.jy (fun b o v hcl hn=>⟨(bZ C.w _ _ (jW hcl)).trans hcl,fun hq=>by
   rcases hq with(hq|hq)|hq
   ·exact hn (.inl hq)
   ·have:=jW hcl;omega
   ·exact hn (.inr hq)⟩) (fun _=>.refl _) _ _ hargs
 have hcall:=hc (Wj C C.β C.s C.w.heap.size (C.w.alloc (.cells #[.bool false] 4))) #[v0,v1,v2] hCs hCk hin hargs1;have hin1:(C.w.alloc (.cells #[.bool false] 4)).heap.size=C.w.heap.size+1:=by simp
 have fin:∀(bb:Bool)(r:List gv)(β2:iE)(w2 w3:World),Sum.elim (fun _=>true) (fun _=>false) rr=bb->Sum.elim id id rr=r->Inv (Wj C C.β C.s C.w.heap.size (C.w.alloc (.cells #[.bool false] 4))) β2 [(0,.obj 195 ((.d (ia 1 iD u0))::List.map (aD (oI 1 iD)) r))] w2->
  w2.heap.size<=w3.heap.size->yo w3=yo w2->(∀b,b<w2.heap.size->b≠C.w.heap.size->w3.heap[b]?=w2.heap[b]?)->
  ∃v x β' s',Ending.returned (.bool bb)=.returned v/\Inv C β' s' w3/\AV.ok β' (C.ir β' s') w3 x v/\(x=.d (bD (Sum.elim (fun _=>true) (fun _=>false) rr))/\s'=[(0,.obj 195 ((.d (ia 1 iD u0))::List.map (aD (oI 1 iD)) (Sum.elim id id rr)))]):=by
  intro bb r β2 w2 w3 e1 e2 hI h3 hio3 hk3;refine⟨_,_,β2,_,rfl,?_,?_,rfl,rfl⟩
  ·rw[e2];refine Rh (n:=C.w.heap.size) (w1:=C.w.alloc (.cells #[.bool false] 4)) hinv rfl gY (fun b hb=>aS C.w _ b hb) rfl hI (fun id=>?_) h3 hio3 hk3;by_cases hi:id=0
   ·subst hi;exact .inr ⟨_,_,rfl⟩
   ·left;simp[sat,hi]
  ·rw[e1];exact ua rfl
 have hcall2:Calls Tryz.prog 146 #[v0,v1,v2] (C.w.alloc (.cells #[.bool false] 4)) fun e w2=>
  (∃u,e=.returned u/\w2.heap[C.w.heap.size]?=some (.cells #[.bool false] 4 (0,0))/\w2.cell? ⟨C.w.heap.size,0,none⟩=some (.bool false)/\w2.frozen? ⟨C.w.heap.size,0,none⟩=false/\∀w3,w2.heap.size<=w3.heap.size->yo w3=yo w2->(∀b,b<w2.heap.size->b≠C.w.heap.size->w3.heap[b]?=w2.heap[b]?)->
   ∃v x β' s',Ending.returned (.bool true)=.returned v/\Inv C β' s' w3/\AV.ok β' (C.ir β' s') w3 x v/\(x=.d (bD (Sum.elim (fun _=>true) (fun _=>false) rr))/\s'=[(0,.obj 195 ((.d (ia 1 iD u0))::List.map (aD (oI 1 iD)) (Sum.elim id id rr)))]))\/
  (e=.panicked [{v:=.iface 217 (.agg #[]),recovered:=false}]/\w2.heap[C.w.heap.size]?=some (.cells #[.bool false] 4 (0,0))/\w2.cell? ⟨C.w.heap.size,0,none⟩=some (.bool false)/\w2.frozen? ⟨C.w.heap.size,0,none⟩=false/\∀w3,w2.heap.size<=w3.heap.size->yo w3=yo w2->(∀b,b<w2.heap.size->b≠C.w.heap.size->w3.heap[b]?=w2.heap[b]?)->
   ∃v x β' s',Ending.returned (.bool false)=.returned v/\Inv C β' s' w3/\AV.ok β' (C.ir β' s') w3 x v/\(x=.d (bD (Sum.elim (fun _=>true) (fun _=>false) rr))/\s'=[(0,.obj 195 ((.d (ia 1 iD u0))::List.map (aD (oI 1 iD)) (Sum.elim id id rr)))])):=by
  refine hcall.mono ?_;rintro e w2 ⟨v,x,β2,s2,hE,hI,hx,rfl,rfl⟩;have hblk:∀id,¬ic C.β C.s id C.w.heap.size:=fun id hb=>by have:=hinv.tf hb;omega
  have hheap:w2.heap[C.w.heap.size]?=some (.cells #[.bool false] 4 (0,0)):=(hI.qq C.w.heap.size (by show _<(C.w.alloc _).heap.size;omega) hblk).trans (cL C.w _);have hcl:w2.cell? ⟨C.w.heap.size,0,none⟩=some (.bool false):=by simp[World.cell?,hheap]
  have hfz:w2.frozen? ⟨C.w.heap.size,0,none⟩=false:=by simp[World.frozen?,hheap]
  cases rr with
  |inl r=>
   rcases hE with⟨u,rfl,rfl⟩|⟨rfl,rfl⟩
   ·exact .inl ⟨u,rfl,hheap,hcl,hfz,fun w3 h3 hio3 hk3=>fin true r β2 w2 w3 rfl rfl hI h3 hio3 hk3⟩
   ·exfalso;simp only[dP,okB,AV.ok,AV.iK,D.ok]at hx;obtain⟨vs,hvs,p0,q0,k0,_,p1,q1,k1,⟨k2,_⟩,_⟩:=hx;cases hvs;simp only[bT]at k0;obtain⟨rfl,rfl⟩:=k0;simp only[bT]at k1;obtain⟨rfl,rfl⟩:=k1;cases k2
  |inr r=>
   rcases hE with⟨u,rfl,rfl⟩|⟨rfl,rfl⟩
   ·exfalso;simp only[d_,okB,AV.ok,AV.iK,D.ok]at hx;obtain⟨vs,hvs,p0,q0,k0,_,p1,q1,k1,⟨k2,_⟩,_⟩:=hx;cases hvs;simp only[bT]at k0;obtain⟨rfl,rfl⟩:=k0;simp only[bT]at k1;obtain⟨rfl,rfl⟩:=k1;cases k2
   ·exact .inr ⟨rfl,hheap,hcl,hfz,fun w3 h3 hio3 hk3=>fin false r β2 w2 w3 rfl rfl hI h3 hio3 hk3⟩
 clear hcall fin hargs1 hin
 go_enter_defers Tryz.func129,Tryz.ntmps129
 go_wp2_with (go_at_call 146;refine hcall2.mono ?_;rintro e w2 (⟨u,rfl,hh,hcl,hfz,hf⟩|⟨rfl,hh,hcl,hfz,hf⟩))
 ·refine leaves_cons (f:=145) (args:=#[.pointer (some ⟨C.w.heap.size,0,none⟩)]) (by simp) (by simp[go_sem]) ?_;refine(QX ⟨C.w.heap.size,0,none⟩ _).mono ?_;rintro e u' w'' ⟨rfl,rfl,rfl⟩;simp[Leaves,settle,results,Tryz.results129,go_sem];have hc3:(w2.setCell ⟨C.w.heap.size,0,none⟩ (.bool true)).cell? ⟨C.w.heap.size,0,none⟩=some (.bool true):=by simp only[World.cell?,heap_setCell_same _ _ 0 _ _ _ hh];simp
  rw[hc3];obtain⟨v,x,β',s',e,hq⟩:=hf (w2.setCell ⟨C.w.heap.size,0,none⟩ (.bool true)) (by simp) rfl (fun b hb hne=>gq _ _ _ _ hne);cases e;exact⟨_,rfl,x,β',s',hq⟩
 ·refine leaves_cons (f:=145) (args:=#[.pointer (some ⟨C.w.heap.size,0,none⟩)]) (by simp) (by simp[go_sem]) ?_;refine(QY ⟨C.w.heap.size,0,none⟩ false _ hcl hfz).mono ?_;rintro e u' w'' ⟨rfl,rfl,rfl⟩;simp[Leaves,settle,results,Tryz.results129,go_sem];have hlt:C.w.heap.size<w2.heap.size:=(aV.1 hh).1;have hh2:(w2.alloc (Obj.cells #[] 217)).heap[C.w.heap.size]?=some (.cells #[.bool false] 4 (0,0)):=(aS w2 _ _ hlt).trans hh;have hc3:((w2.alloc (Obj.cells #[] 217)).setCell ⟨C.w.heap.size,0,none⟩ (.bool false)).cell? ⟨C.w.heap.size,0,none⟩=some (.bool false):=by simp only[World.cell?,heap_setCell_same _ _ 0 _ _ _ hh2];simp
  rw[hc3];obtain⟨v,x,β',s',e,hq⟩:=hf ((w2.alloc (Obj.cells #[] 217)).setCell ⟨C.w.heap.size,0,none⟩ (.bool false)) (by simp) rfl (fun b hb hne=>(gq _ _ _ _ hne).trans (aS w2 _ _ hb));cases e;exact⟨_,rfl,x,β',s',hq⟩
def mE(a b u0:gv)(ul:List gv):Option (Bool×List gv):=
 (jS a b u0 ul).map fun rr=>(Sum.elim (fun _=>true) (fun _=>false) rr,Sum.elim id id rr)
instance Gr{a b u0:gv}{ul:List gv}:iR (mE a b u0 ul) fun rr=>iC Tryz.prog 129 [.ptr 0 0,.d (ia 1 iD a),.d (ia 1 iD b)] [(0,.obj 195 ((.d (ia 1 iD u0))::List.map (aD (oI 1 iD)) ul))] 1 fun xx ss=>xx=.d (bD rr.1)/\ss=[(0,.obj 195 ((.d (ia 1 iD u0))::List.map (aD (oI 1 iD)) rr.2))]:=⟨fun h=>by
 obtain⟨r,h1,rfl⟩:=az.1 h;exact HC (iR.c h1)⟩
end Go.Proofs.YtjgbnaihpicpgaaGreatDoor
