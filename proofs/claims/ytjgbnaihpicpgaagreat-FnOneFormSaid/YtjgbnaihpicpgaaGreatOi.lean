/- A part of the proof about FnOneForm (H3a, H3b, SV). -/
import Derived.Test.YtjgbnaihpicpgaaGreatOc
import Derived.Test.YtjgbnaihpicpgaaGreatOe
import Derived.Tactics
import Derived.Tactics2
import Derived.Defers
import Derived.Recover
import Derived.Laws.Pointers
set_option linter.all false
noncomputable section
namespace Go.Proofs.YtjgbnaihpicpgaaGreat
open Go ng
attribute [local irreducible] uh wo vz mL mC ot kQ Be Cb zM Ca zD uj mu og BY iY lg sy Lh Gr
set_option maxHeartbeats 4000000
set_option maxRecDepth 4000
def TV:ir:=
 (.seq (.ie (sq 4 [.mv (.const (.slice none 0 0))])) (.seq (.block 0 (.loop (.seq (.seq (.draw (sq 5 [mv 1,.tG 1 (t0 5) (i0 0),ld 6,bi .lss 7 0,mv 8]++sg 9 true 10 [mv 0,mv 1,.tG 1 (t0 11) (i0 0),ld 12,.bin .sub (i0 (-1)) (t0 13),.mE (t0 10),fa 1 15,.xu 1 48 (t0 16) (t0 14),ld 17,.uK true (t0 18)]++sq 20 [pa 9 19]) [[],[0],[1],[2],[3],[4],[4],[6,4],[7,4],[8,4],[5,4],[10,4],[11,9,4],[12,4],[13,4],[4,14]]) (.cond (t0 20) .skip (.exit 0))) (.block 1 (.draw (sq 21 [mv 0,mv 1,.tG 1 (t0 22) (i0 0),ld 23,.bin .sub (i0 (-1)) (t0 24),.mE (t0 21),fa 1 26,.xu 1 48 (t0 27) (t0 25),ld 28]++sq 1 [mv 29]) [[],[],[1],[2],[3],[0],[5],[6,4],[7],[8,0,1,2,3,4,5,6,7,8]]))))) (.seq (.ie (sq 30 [mv 1]++sq 4 [mv 30])) .ret)))
theorem XA:kS Tryz.prog 234 TV 31 [.tmp 4]:=mf Tryz.func234 Tryz.ntmps234
def lD(ul:gE):gB->Option (gB⊕gB)
 |t_1=>
  if 0<=0/\0<(t_1.length:Int)then
   if(decide ((t_1.getD 0 default)<0))=true then
    if 0<=(IntKind.i64.wrap ((-1)-(t_1.getD 0 default)))/\(IntKind.i64.wrap ((-1)-(t_1.getD 0 default)))<48/\(IntKind.i64.wrap ((-1)-(t_1.getD 0 default)))<(ul.length:Int)then
     if(ul.getD (IntKind.i64.wrap ((-1)-(t_1.getD 0 default))).toNat default).isEmpty=true then
      Option.map Sum.inr (
       some t_1)
     else
      some (.inl (ul.getD (IntKind.i64.wrap ((-1)-(t_1.getD 0 default))).toNat default))
    else none
   else
    Option.map Sum.inr (
     some t_1)
  else none
def lG(t:gB)(u0:gB)(ul:gE):Option gB:=
 iB (lD ul) t
instance HJ{t:gB}{u0:gB}{ul:gE}:iU (lG t u0 ul) fun rr=>iH Tryz.prog 234 [.ptr 0 0,.d (iq 1 iD t)] [(0,.obj 245 ((.d (iq 1 iD u0))::List.map (aD (oz 1 iD)) ul))] 1 fun xx ss=>xx=.d (iq 1 iD rr)/\ss=[(0,.obj 245 ((.d (iq 1 iD u0))::List.map (aD (oz 1 iD)) ul))]:=⟨@fun rr h=>by
 delta lG at h;refine XA.kL (ia ?_);delta TV;refine iR ?_;refine kA h [1,5,6,7,8,9,10,11,12,13,14,15,16,17,18,19,20,21,22,23,24,25,26,27,28,29] (fun pp=>[(1,.d (iq 1 iD pp))]) (fun pp=>[(0,.obj 245 ((.d (iq 1 iD u0))::List.map (aD (oz 1 iD)) ul))]) ?_;rintro t_1 t1 h hb1;unfold lD at h;try dsimp only at h
 refine ia (iR ?_);exact lP⟩
def TX:ir:=
 (.seq (.ie (sq 8 [mb false])) (.seq (.seq (.ie (sq 12 [mv 2,ln 12,mi 0])) (.block 0 (.loop (.seq (.ie (sq 15 [bn .lss 14 13])) (.seq (.cond (t0 15) .skip (.exit 0)) (.seq (.block 1 (.seq (.ie (sq 16 [ix 1 12 14,ld 16]++sq 10 [mv 17])) (.seq (.seq (.ie (sq 18 [mv 10,mv 1,bn .eql 18 19])) (.cond (t0 20) (.seq (.ie (sq 8 [mb true])) .ret) .skip)) (.seq (.seq (.ie (sq 21 [mv 10,bi .geq 21 0,mv 22]++sg 23 false 24 [mv 3,mv 10,.bin .sub (i0 (-1)) (t0 25),.mE (t0 24),.xu 1 48 (t0 27) (t0 26),ld 28]++sq 30 [po 23 29])) (.cond (t0 30) (.exit 1) .skip)) (.seq (.ie (sq 31 [mv 3,mv 10,.bin .sub (i0 (-1)) (t0 32),.mE (t0 31),.xu 1 48 (t0 34) (t0 33)]++s0 (.store 1 (t0 35) (.const (.bool true))))) (.seq (.ie (sq 36 [mv 0,mv 10,.bin .sub (i0 (-1)) (t0 37),.mE (t0 36),fa 1 39,.xu 1 48 (t0 40) (t0 38),ld 41]++sq 11 [mv 42])) (.seq (.ie (sq 43 [mv 11,.uK true (t0 43),mv 44]++sg 45 true 46 [mv 0,mv 1,mv 11,mv 3,cf 235 [46,47,48,49]]++sq 51 [pa 45 50])) (.cond (t0 51) (.seq (.ie (sq 8 [mb true])) .ret) .skip)))))))) (.ie (sq 52 [bi .add 14 1]++sq 14 [mv 52])))))))) (.seq (.ie (sq 8 [mb false])) .ret)))
theorem XB:kS Tryz.prog 235 TX 53 [.tmp 8]:=mf Tryz.func235 Tryz.ntmps235
def jT(rec:Int->gB->gB->gE->gW->Option (Bool×gW))(n:Int)(t:gB)(u0:gB)(ul:gE):(Int×gW)->Option ((Int×gW)⊕(Bool×gW))
 |(v14,n_1)=>
  if(decide (v14<(t.length:Int)))=true then
   if 0<=v14/\v14<(t.length:Int)then
    if((t.getD v14.toNat default)==n)=true then
     Option.map Sum.inr (
      some (true,n_1))
    else
     if(decide (0<=(t.getD v14.toNat default)))=true then
      some (.inl ((IntKind.i64.wrap (v14+1)),n_1))
     else
      if 0<=(IntKind.i64.wrap ((-1)-(t.getD v14.toNat default)))/\(IntKind.i64.wrap ((-1)-(t.getD v14.toNat default)))<48/\(IntKind.i64.wrap ((-1)-(t.getD v14.toNat default)))<(n_1.length:Int)then
       if(n_1.getD (IntKind.i64.wrap ((-1)-(t.getD v14.toNat default))).toNat default)=true then
        some (.inl ((IntKind.i64.wrap (v14+1)),n_1))
       else
        if 0<=(IntKind.i64.wrap ((-1)-(t.getD v14.toNat default)))/\(IntKind.i64.wrap ((-1)-(t.getD v14.toNat default)))<48/\(IntKind.i64.wrap ((-1)-(t.getD v14.toNat default)))<(ul.length:Int)then
         if(ul.getD (IntKind.i64.wrap ((-1)-(t.getD v14.toNat default))).toNat default).isEmpty=true then
          some (.inl ((IntKind.i64.wrap (v14+1)),(n_1.set (IntKind.i64.wrap ((-1)-(t.getD v14.toNat default))).toNat true)))
         else
          (rec n (ul.getD (IntKind.i64.wrap ((-1)-(t.getD v14.toNat default))).toNat default) u0 ul (n_1.set (IntKind.i64.wrap ((-1)-(t.getD v14.toNat default))).toNat true)).bind fun r=>
          if r.1=true then
           Option.map Sum.inr (
            some (true,r.2))
          else
           some (.inl ((IntKind.i64.wrap (v14+1)),r.2))
        else none
      else none
   else none
  else
   Option.map Sum.inr (
    some (false,n_1))
def jo:Nat->Int->gB->gB->gE->gW->Option (Bool×gW)
 |0,_,_,_,_,_=>none
 |fu+1,n,t,u0,ul,seen=>
  iB (jT (jo fu) n t u0 ul) (0,seen)
def lO(n:Int)(t:gB)(u0:gB)(ul:gE)(seen:gW):Option (Bool×gW):=AL fun fu=>jo fu n t u0 ul seen
theorem tE:∀{fu:Nat}{n:Int}{t:gB}{u0:gB}{ul:gE}{seen:gW}{rr:(Bool×gW)}(h:jo fu n t u0 ul seen=some rr),iH Tryz.prog 235 [.ptr 0 0,.d (iD n),.d (iq 1 iD t),.ptr 1 0] [(0,.obj 245 ((.d (iq 1 iD u0))::List.map (aD (oz 1 iD)) ul)),(1,.obj 273 (List.map (aD bD) seen))] 2 fun xx ss=>xx=.d (bD rr.1)/\ss=[(0,.obj 245 ((.d (iq 1 iD u0))::List.map (aD (oz 1 iD)) ul)),(1,.obj 273 (List.map (aD bD) rr.2))]
 |0,_,_,_,_,_,_,h=>by cases h
 |fu+1,n,t,u0,ul,seen,rr,h=>by
  have ih:∀{n:Int}{t:gB}{u0:gB}{ul:gE}{seen:gW},iU (jo fu n t u0 ul seen) fun rr=>iH Tryz.prog 235 [.ptr 0 0,.d (iD n),.d (iq 1 iD t),.ptr 1 0] [(0,.obj 245 ((.d (iq 1 iD u0))::List.map (aD (oz 1 iD)) ul)),(1,.obj 273 (List.map (aD bD) seen))] 2 fun xx ss=>xx=.d (bD rr.1)/\ss=[(0,.obj 245 ((.d (iq 1 iD u0))::List.map (aD (oz 1 iD)) ul)),(1,.obj 273 (List.map (aD bD) rr.2))]:=⟨fun h=>tE h⟩
  unfold jo at h;refine XB.kL (ia ?_);delta TX;refine iR ?_;refine kA h [8,10,11,14,15,16,17,18,19,20,21,22,23,24,25,26,27,28,29,30,31,32,33,34,35,36,37,38,39,40,41,42,43,44,45,46,47,48,49,50,51,52] (fun pp=>[(14,.d (iD pp.1))]) (fun pp=>[(0,.obj 245 ((.d (iq 1 iD u0))::List.map (aD (oz 1 iD)) ul)),(1,.obj 273 (List.map (aD bD) pp.2))]) ?_;rintro⟨v14,n_1⟩ t1 h hb1;unfold jT at h;try dsimp only at h
  refine ia (iR ?_);refine iT h fun hc1 h=>?_
  refine kz h fun hp h=>?_
  refine iF h fun hc2 h=>?_
  refine iF h fun hc3 h=>?_
  refine kz h fun hp h=>?_
  refine iF h fun hc4 h=>?_
  refine qa ?_;refine kz h fun hp h=>?_
  refine iF h fun hc5 h=>?_
  refine qC [(0,0),(1,1)] [] h fun r hr h=>?_
  exact lP
instance D1{n:Int}{t:gB}{u0:gB}{ul:gE}{seen:gW}:iU (lO n t u0 ul seen) fun rr=>iH Tryz.prog 235 [.ptr 0 0,.d (iD n),.d (iq 1 iD t),.ptr 1 0] [(0,.obj 245 ((.d (iq 1 iD u0))::List.map (aD (oz 1 iD)) ul)),(1,.obj 273 (List.map (aD bD) seen))] 2 fun xx ss=>xx=.d (bD rr.1)/\ss=[(0,.obj 245 ((.d (iq 1 iD u0))::List.map (aD (oz 1 iD)) ul)),(1,.obj 273 (List.map (aD bD) rr.2))]:=⟨fun h=>tE (qO h).choose_spec⟩
def Yn:ir:=
 (.seq (.ie (sq 3 [bo 3 29 0]++sq 6 [.mv (.const (.slice none 0 0))])) (.seq (.ie (sq 7 [.mv (.const (.slice none 0 0))])) (.seq (.ie (sq 10 [mv 2,bi .add 10 1]++sq 8 [mv 11])) (.seq (.seq (.draw (sq 12 [la 1 3,mv 1,mv 2,ix 1 13 14,ld 15,cf 157 [12,16]]++sq 9 [mv 17]) [[],[],[],[1,2],[3],[0,4],[5,5,0,1,2,3,4,5]]) (.block 0 (.loop (.seq (.seq (.ie (sq 18 [mv 9,bi .gtr 18 0])) (.cond (t0 19) .skip (.exit 0))) (.seq (.block 1 (.seq (.ie (sq 22 [mv 7,mv 8,.mD 24 3 1 [(t0 23)],ap 25 3 1 8 22 24]++sq 7 [mv 25])) (.ie (sq 26 [la 1 3,mv 1,mv 8,cf 158 [26,27,28]]++sq 8 [mv 29])))) (.ie (sq 20 [mv 9,bi .sub 20 1]++sq 9 [mv 21]))))))) (.seq (.ie (sq 30 [mv 7]++sq 6 [mv 30])) .ret)))))
theorem ZR:kS Tryz.prog 94 Yn 31 [.tmp 6]:=mf Tryz.func94 Tryz.ntmps94
def mY(sig:gB)(t:gB):gH->Option (gH⊕gB)
 |(out,next',n)=>
  if(decide (0<n))=true then
   if(out.length+1)*8<=140737488355328 then
    (lY sig t next').bind fun r_1=>
    some (.inl ((out++[next']),r_1,(IntKind.i64.wrap (n-1))))
   else none
  else
   Option.map Sum.inr (
    some out)
def mU(sig:gB)(t:gB)(iS:Int):Option gB:=
 if 0<=iS/\iS<(t.length:Int)then
  (ni sig (t.getD iS.toNat default)).bind fun r=>
  iB (mY sig t) ([],(IntKind.i64.wrap (iS+1)),r)
 else none
instance PI{sig:gB}{t:gB}{iS:Int}:iU (mU sig t iS) fun rr=>jW Tryz.prog 94 [jy sig,(iq 1 iD) t,iD iS] ((iq 1 iD) rr):=⟨@fun rr h=>by
 delta mU at h;refine ZR.jz (ia ?_);delta Yn;refine iR ?_;refine kz h fun hp h=>?_
 refine dC h fun r hr h=>?_
 refine jM (by kernel_rfl) (iR ?_);refine xA h [7,8,9,18,19,20,21,22,23,24,25,26,27,28,29] (fun pp=>[(7,.own 1 25 (List.map iD pp.1)),(8,.d (iD pp.2.1)),(9,.d (iD pp.2.2))]) (fun pp=>[(3,.obj 29 [.d (iq 1 iD sig)]),(25,.tok 3 1 pp.1.length)]) ?_ ?_
 ·try dsimp only
  refine(iV.VM 7 25 3 1 rfl rfl).trans ?_;exact wk
 rintro⟨out,next',n⟩ t1 h hb1;unfold mY at h;try dsimp only at h
 refine ia (iR ?_);refine iT h fun hc1 h=>?_
 refine kz h fun hp h=>?_
 refine rC h fun r_1 hr_1 h=>?_
 cases h;refine⟨_,rfl,?_⟩;refine(iV.drop 24 h_).trans ?_;exact wk⟩
def qY:ir:=
 (.seq (.ie (sq 9 [mv 0,mv 1,cf 234 [9,10],mv 0,mv 2,cf 234 [12,13]]++sq 1 [mv 11,mv 14])) (.seq (.seq (.draw (sq 15 [mv 1,.tG 1 (t0 15) (i0 0),ld 16,mv 2,.tG 1 (t0 18) (i0 0),ld 19,bn .eql 17 20,mv 21]++sg 22 true 23 [mv 1,.tG 1 (t0 23) (i0 0),ld 24,bi .lss 25 0]++sq 27 [pa 22 26]) [[],[0],[1],[],[3],[4],[2,5],[6],[7],[8,7],[9,7],[10,7],[7,11]]) (.cond (t0 27) .ret .skip)) (.seq (.seq (.draw (sq 28 [mv 2,.tG 1 (t0 28) (i0 0),ld 29,bi .lss 30 0,mv 31]++sg 32 true 33 [mv 1,.tG 1 (t0 33) (i0 0),ld 34,bi .geq 35 0,mv 36]++sg 37 false 38 [mv 2,.tG 1 (t0 38) (i0 0),ld 39,mv 1,.tG 1 (t0 41) (i0 0),ld 42,bn .lss 40 43]++sg 32 true 45 [po 37 44]++sq 46 [pa 32 45]) [[],[0],[1],[2],[3],[4],[5,4],[6,4],[7,4],[8,4,4],[9],[10,9],[11,9],[9],[13,9],[14,9],[12,15,9],[9,16,4],[4,17]]) (.cond (t0 46) (.ie (sq 47 [mv 2,mv 1]++sq 1 [mv 47,mv 48])) .skip)) (.seq (.seq (.ie (sq 49 [mv 1,.tG 1 (t0 49) (i0 0),ld 50,bi .lss 51 0])) (.cond (t0 52) (.seq (.seq (.ie (sq 53 [mv 2,.tG 1 (t0 53) (i0 0),ld 54,bi .geq 55 0,mv 56]++sg 57 true 58 [mv 0,mv 1,.tG 1 (t0 59) (i0 0),ld 60,mv 2,.build [.lit (.bool false),.lit (.bool false),.lit (.bool false),.lit (.bool false),.lit (.bool false),.lit (.bool false),.lit (.bool false),.lit (.bool false),.lit (.bool false),.lit (.bool false),.lit (.bool false),.lit (.bool false),.lit (.bool false),.lit (.bool false),.lit (.bool false),.lit (.bool false),.lit (.bool false),.lit (.bool false),.lit (.bool false),.lit (.bool false),.lit (.bool false),.lit (.bool false),.lit (.bool false),.lit (.bool false),.lit (.bool false),.lit (.bool false),.lit (.bool false),.lit (.bool false),.lit (.bool false),.lit (.bool false),.lit (.bool false),.lit (.bool false),.lit (.bool false),.lit (.bool false),.lit (.bool false),.lit (.bool false),.lit (.bool false),.lit (.bool false),.lit (.bool false),.lit (.bool false),.lit (.bool false),.lit (.bool false),.lit (.bool false),.lit (.bool false),.lit (.bool false),.lit (.bool false),.lit (.bool false),.lit (.bool false)] [],bo 64 273 63,cf 235 [58,61,62,64]]++sq 66 [pa 57 65])) (.cond (t0 66) (.ghost (.ie (sq 67 [.build [] [],.AP 263 (t0 67)]++s0 (.D3 (t0 68))))) .skip)) (.seq (.draw (sq 69 [mv 0,mv 1,.tG 1 (t0 70) (i0 0),ld 71,.bin .sub (i0 (-1)) (t0 72),mv 2,.mE (t0 69),fa 1 75,.xu 1 48 (t0 76) (t0 73)]++s0 (sr 1 77 74)) [[],[],[1],[2],[3],[],[0],[6],[7,4,0,1,2,3,4,5],[8,5,0,1,2,3,4,5]]) .ret)) .skip)) (.seq (.seq (.draw (sq 78 [mv 1,.tG 1 (t0 78) (i0 0),ld 79,mv 2,.tG 1 (t0 81) (i0 0),ld 82,bn .neq 80 83]) [[],[0],[1],[],[3],[4],[2,5]]) (.cond (t0 84) (.ghost (.ie (sq 85 [.build [] [],.AP 263 (t0 85)]++s0 (.D3 (t0 86))))) .skip)) (.seq (.draw (sq 87 [mv 0,.mE (t0 87),fa 0 88,la 1 89,mv 1,.ke 94 [(t0 90),(t0 91),(i0 0)],mv 0,.mE (t0 93),fa 0 94,la 1 95,mv 2,.ke 94 [(t0 96),(t0 97),(i0 0)]]++sq 6 [mv 92,mv 98]) [[],[0],[1],[2],[],[3,4],[],[6],[7],[8],[],[9,10,5],[5,11,0,1,2,3,4,5],[11,12,0,1,2,3,4,5,6,7,8,9,10,11,12]]) (.seq (.ie (sq 99 [mv 6,ln 99,mi 0])) (.block 0 (.loop (.seq (.ie (sq 102 [bn .lss 101 100])) (.seq (.cond (t0 102) .skip (.exit 0)) (.seq (.block 1 (.seq (.ie (sq 103 [mv 101]++sq 8 [mv 103])) (.ghost (.draw (sq 104 [mv 0,mv 0,.mE (t0 105),fa 0 106,la 1 107,mv 1,mv 6,mv 8,ix 1 110 111,ld 112,cf 95 [108,109,113],mv 0,.mE (t0 115),fa 0 116,la 1 117,mv 2,mv 7,mv 8,ix 1 120 121,ld 122,cf 95 [118,119,123],cf 227 [104,114,124]]) [[],[],[1],[2],[3],[],[],[],[6,7],[8],[4,5,9],[],[11],[12],[13],[],[],[],[16,17],[18],[14,15,19,10],[0,10,20,20]])))) (.ie (sq 126 [bi .add 101 1]++sq 101 [mv 126]))))))))))))))
theorem vD:kS Tryz.prog 227 qY 127 []:=mf Tryz.func227 Tryz.ntmps227
def jS(rec:gB->gB->gB->gE->Option (gE⊕gE))(u0:gB)(r:gB)(r_1:gB)(r_18:gB)(r_19:gB):(Int×gE)->Option ((Int×gE)⊕(gE⊕gE))
 |(v101_3,u_3)=>
  if(decide (v101_3<(r_18.length:Int)))=true then
   if 0<=v101_3/\v101_3<(r_18.length:Int)then
    (jX u0 r (r_18.getD v101_3.toNat default)).bind fun r_20=>
    if 0<=v101_3/\v101_3<(r_19.length:Int)then
     (jX u0 r_1 (r_19.getD v101_3.toNat default)).bind fun r_21=>
     (rec r_20 r_21 u0 u_3).bind (Sum.elim (fun rt_3=>
      some (.inl ((IntKind.i64.wrap (v101_3+1)),rt_3))) (fun rf_3=>
      Option.map Sum.inr (
       some (.inr rf_3))))
    else none
   else none
  else
   Option.map Sum.inr (
    some (.inl u_3))
def iN:Nat->gB->gB->gB->gE->Option (gE⊕gE)
 |0,_,_,_,_=>none
 |fu+1,a,b,u0,ul=>
  (lG a u0 ul).bind fun r=>
  (lG b u0 ul).bind fun r_1=>
  if 0<=0/\0<(r.length:Int)then
   if 0<=0/\0<(r_1.length:Int)then
    if((r.getD 0 default)==(r_1.getD 0 default))=true then
     if(decide ((r.getD 0 default)<0))=true then
      some (.inl ul)
     else
      (mU u0 r 0).bind fun r_18=>
      (mU u0 r_1 0).bind fun r_19=>
      iB (jS (iN fu) u0 r r_1 r_18 r_19) (0,ul)
    else
     if(decide ((r_1.getD 0 default)<0))=true then
      if(decide (0<=(r.getD 0 default)))=true then
       (lO (r_1.getD 0 default) r u0 ul (List.replicate 48 false)).bind fun r_22=>
       if r_22.1=true then
        some (.inr ul)
       else
        if 0<=(IntKind.i64.wrap ((-1)-(r_1.getD 0 default)))/\(IntKind.i64.wrap ((-1)-(r_1.getD 0 default)))<48/\(IntKind.i64.wrap ((-1)-(r_1.getD 0 default)))<(ul.length:Int)then
         if 0<r.length then
          some (.inl (ul.set (IntKind.i64.wrap ((-1)-(r_1.getD 0 default))).toNat r))
         else none
        else none
      else
       if(decide ((r_1.getD 0 default)<(r.getD 0 default)))=true then
        if 0<=(IntKind.i64.wrap ((-1)-(r_1.getD 0 default)))/\(IntKind.i64.wrap ((-1)-(r_1.getD 0 default)))<48/\(IntKind.i64.wrap ((-1)-(r_1.getD 0 default)))<(ul.length:Int)then
         if 0<r.length then
          some (.inl (ul.set (IntKind.i64.wrap ((-1)-(r_1.getD 0 default))).toNat r))
         else none
        else none
       else
        if 0<=(IntKind.i64.wrap ((-1)-(r.getD 0 default)))/\(IntKind.i64.wrap ((-1)-(r.getD 0 default)))<48/\(IntKind.i64.wrap ((-1)-(r.getD 0 default)))<(ul.length:Int)then
         if 0<r_1.length then
          some (.inl (ul.set (IntKind.i64.wrap ((-1)-(r.getD 0 default))).toNat r_1))
         else none
        else none
     else
      if(decide ((r.getD 0 default)<0))=true then
       (lO (r.getD 0 default) r_1 u0 ul (List.replicate 48 false)).bind fun r_37=>
       if r_37.1=true then
        some (.inr ul)
       else
        if 0<=(IntKind.i64.wrap ((-1)-(r.getD 0 default)))/\(IntKind.i64.wrap ((-1)-(r.getD 0 default)))<48/\(IntKind.i64.wrap ((-1)-(r.getD 0 default)))<(ul.length:Int)then
         if 0<r_1.length then
          some (.inl (ul.set (IntKind.i64.wrap ((-1)-(r.getD 0 default))).toNat r_1))
         else none
        else none
      else
       some (.inr ul)
   else none
  else none
def ki(a:gB)(b:gB)(u0:gB)(ul:gE):Option (gE⊕gE):=AL fun fu=>iN fu a b u0 ul
theorem tD:∀{fu:Nat}{a:gB}{b:gB}{u0:gB}{ul:gE}{rr:(gE⊕gE)}(h:iN fu a b u0 ul=some rr),Bm (.iface 263 (.agg #[])) Tryz.prog 227 [.ptr 0 0,.d (iq 1 iD a),.d (iq 1 iD b)] [(0,.obj 245 ((.d (iq 1 iD u0))::List.map (aD (oz 1 iD)) ul))] 1 (fun rr:gE=>.mB []) (fun rr:gE=>[(0,.obj 245 ((.d (iq 1 iD u0))::List.map (aD (oz 1 iD)) rr))]) (fun rr:gE=>[(0,.obj 245 ((.d (iq 1 iD u0))::List.map (aD (oz 1 iD)) rr))]) rr
 |0,_,_,_,_,_,h=>by cases h
 |fu+1,a,b,u0,ul,rr,h=>by
  have ih:∀{a:gB}{b:gB}{u0:gB}{ul:gE},iU (iN fu a b u0 ul) fun rr=>Bm (.iface 263 (.agg #[])) Tryz.prog 227 [.ptr 0 0,.d (iq 1 iD a),.d (iq 1 iD b)] [(0,.obj 245 ((.d (iq 1 iD u0))::List.map (aD (oz 1 iD)) ul))] 1 (fun rr:gE=>.mB []) (fun rr:gE=>[(0,.obj 245 ((.d (iq 1 iD u0))::List.map (aD (oz 1 iD)) rr))]) (fun rr:gE=>[(0,.obj 245 ((.d (iq 1 iD u0))::List.map (aD (oz 1 iD)) rr))]) rr:=⟨fun h=>tD h⟩
  unfold iN at h;refine vD.Su (ia ?_);delta qY;refine iR ?_;refine qC [(0,0)] [] h fun r hr h=>?_
  refine qC [(0,0)] [] h fun r_1 hr_1 h=>?_
  refine kz h fun hp h=>?_
  refine kz h fun hp h=>?_
  refine it h (fun hc1 h=>?_) fun hc1 h=>?_
  ·refine qa ?_;refine jM (by kernel_rfl) (iR ?_);refine it h (fun hc2 h=>?_) fun hc2 h=>?_
   ·cases h;exact jA.trans (jA.refl) (jA.told Ee lM)
   refine qa ?_;have hc:(decide ((r_1.getD 0 default)<0))=false:=by simp only[bw,dZ,gm,av,bR,bW,cI]at hc1 hc2⊢;omega
   refine uF hc ?_;refine jM (by kernel_rfl) (iR ?_);refine qa ?_;have hc:=hc2;refine uF hc ?_;refine qa ?_;refine qa ?_;refine jM (by kernel_rfl) (iR ?_);have hc:((r.getD 0 default) != (r_1.getD 0 default))=false:=by simp only[bw,dZ,gm,av,bR,bW,cI]at hc1 hc2⊢;omega
   refine uF hc ?_;refine qa ?_;refine dC h fun r_18 hr_18 h=>?_
   refine qa ?_;refine dC h fun r_19 hr_19 h=>?_
   refine jM (by kernel_rfl) (iR ?_);refine kA h [8,101,102,103,104,105,106,107,108,109,110,111,112,113,114,115,116,117,118,119,120,121,122,123,124,125,126] (fun pp=>[(101,.d (iD pp.1))]) (fun pp=>[(0,.obj 245 ((.d (iq 1 iD u0))::List.map (aD (oz 1 iD)) pp.2))]) ?_;rintro⟨v101_3,u_3⟩ t1 h hb1;unfold jS at h;try dsimp only at h
   refine ia (iR ?_);refine it h (fun hc3 h=>?_) fun hc3 h=>?_
   ·refine kQ.mw .refl (Rf (ms:=(sq 104 [mv 0,mv 0,.mE (t0 105),fa 0 106,la 1 107,mv 1,mv 6,mv 8,ix 1 110 111,ld 112,cf 95 [108,109,113],mv 0,.mE (t0 115),fa 0 116,la 1 117,mv 2,mv 7,mv 8,ix 1 120 121,ld 122,cf 95 [118,119,123]])) (m0:=⟨some 125,cf 227 [104,114,124],none⟩) (.iface 263 (.agg #[])) (by kernel_rfl) rfl (by kernel_rfl) (iR ?_));refine qa ?_;refine kz h fun hp h=>?_
    refine dC h fun r_20 hr_20 h=>?_
    refine qa ?_;refine kz h fun hp h=>?_
    refine dC h fun r_21 hr_21 h=>?_
    refine Lh.of (by kernel_rfl) ?_;refine sy.call [(0,0)] [] h (fun rt_3 hrt_3 h=>iR ?_) (fun rf_3 hrf_3 h=>iR ?_) rfl (by decide) (by decide) (by simp[sat]) (by exact lM) (by exact lM)
    ·exact lP
    replace h:=jf h hb1;cases h;refine E5 ?_;exact jA.trans (jA.refl) (jA.told Ee lM)
   replace h:=jf h hb1;cases h;exact jA.trans (jA.refl) (jA.told Ee lM)
  refine jM (by kernel_rfl) (iR ?_);refine qa ?_;refine it h (fun hc4 h=>?_) fun hc4 h=>?_
  ·refine qa ?_;refine it h (fun hc5 h=>?_) fun hc5 h=>?_
   ·refine jM (by kernel_rfl) (iR ?_);refine qa ?_;have hc:=hc4;refine uF hc ?_;refine qa ?_;have hc:=hc5;refine uF hc ?_;refine qa ?_;refine CZ (s':=[(0,.obj 245 ((.d (iq 1 iD u0))::List.map (aD (oz 1 iD)) ul)),(64,.obj 273 (List.map (aD bD) (List.replicate 48 false)))]) ?_ ?_
    ·exact lM
    refine qC [(0,0),(1,64)] [] h fun r_22 hr_22 h=>?_
    refine it h (fun hc6 h=>?_) fun hc6 h=>?_
    ·refine kQ.mw .refl (IT (ms:=(sq 67 [.build [] [],.AP 263 (t0 67)])) (m:=⟨none,.D3 (t0 68),none⟩) (.iface 263 (.agg #[])) rfl (rK (iR ?_)));refine sy.D3 rfl rfl (iR ?_);cases h;refine E5 ?_;exact jA.trans ((jA.zG [64] (by simp))) (jA.told Ee lM)
    refine qa ?_;refine kz h fun hp h=>?_
    refine kz h fun hp h=>?_
    refine jM (by kernel_rfl) (iR ?_);cases h;exact jA.trans ((jA.trans (jA.told (t:=[(0,.obj 245 ((.d (iq 1 iD u0))::List.map (aD (oz 1 iD)) (ul.set (IntKind.i64.wrap ((-1)-(r_1.getD 0 default))).toNat r))),(64,.obj 273 (List.map (aD bD) r_22.2))]) (AV.le_refl _) (by exact(zB ⟨rfl,Cr h_ (by first|exact(zf h_).2 trivial|exact(vj h_).2 trivial)⟩ (zB (zo.refl _) Cn)))) (jA.zG [64] (by simp)))) (jA.told Ee lM)
   refine qa ?_;refine qa ?_;refine jM (by kernel_rfl) (iR ?_);refine it h (fun hc7 h=>?_) fun hc7 h=>?_
   ·refine qa ?_;have hc:=hc4;refine uF hc ?_;refine qa ?_;have hc:=hc5;refine uF hc ?_;refine qa ?_;refine kz h fun hp h=>?_
    refine kz h fun hp h=>?_
    refine jM (by kernel_rfl) (iR ?_);cases h;exact jA.trans ((jA.told (t:=[(0,.obj 245 ((.d (iq 1 iD u0))::List.map (aD (oz 1 iD)) (ul.set (IntKind.i64.wrap ((-1)-(r_1.getD 0 default))).toNat r)))]) (AV.le_refl _) (by exact(zB ⟨rfl,Cr h_ (by first|exact(zf h_).2 trivial|exact(vj h_).2 trivial)⟩ Cn)))) (jA.told Ee lM)
   refine qa ?_;have hc:(decide ((r.getD 0 default)<0))=true:=by simp only[bw,dZ,gm,av,bR,bW,cI]at hc1 hc4 hc5 hc7⊢;omega
   refine uF hc ?_;refine qa ?_;have hc:(decide (0<=(r_1.getD 0 default)))=false:=by simp only[bw,dZ,gm,av,bR,bW,cI]at hc1 hc4 hc5 hc7⊢;omega
   refine uF hc ?_;refine qa ?_;refine kz h fun hp h=>?_
   refine kz h fun hp h=>?_
   refine jM (by kernel_rfl) (iR ?_);cases h;exact jA.trans ((jA.told (t:=[(0,.obj 245 ((.d (iq 1 iD u0))::List.map (aD (oz 1 iD)) (ul.set (IntKind.i64.wrap ((-1)-(r.getD 0 default))).toNat r_1)))]) (AV.le_refl _) (by exact(zB ⟨rfl,Cr h_ (by first|exact(zf h_).2 trivial|exact(vj h_).2 trivial)⟩ Cn)))) (jA.told Ee lM)
  refine jM (by kernel_rfl) (iR ?_);refine qa ?_;refine it h (fun hc8 h=>?_) fun hc8 h=>?_
  ·refine qa ?_;have hc:(decide (0<=(r_1.getD 0 default)))=true:=by simp only[bw,dZ,gm,av,bR,bW,cI]at hc1 hc4 hc8⊢;omega
   refine uF hc ?_;refine qa ?_;refine CZ (s':=[(0,.obj 245 ((.d (iq 1 iD u0))::List.map (aD (oz 1 iD)) ul)),(64,.obj 273 (List.map (aD bD) (List.replicate 48 false)))]) ?_ ?_
   ·exact lM
   refine qC [(0,0),(1,64)] [] h fun r_37 hr_37 h=>?_
   refine it h (fun hc9 h=>?_) fun hc9 h=>?_
   ·refine kQ.mw .refl (IT (ms:=(sq 67 [.build [] [],.AP 263 (t0 67)])) (m:=⟨none,.D3 (t0 68),none⟩) (.iface 263 (.agg #[])) rfl (rK (iR ?_)));refine sy.D3 rfl rfl (iR ?_);cases h;refine E5 ?_;exact jA.trans ((jA.zG [64] (by simp))) (jA.told Ee lM)
   refine qa ?_;refine kz h fun hp h=>?_
   refine kz h fun hp h=>?_
   refine jM (by kernel_rfl) (iR ?_);cases h;exact jA.trans ((jA.trans (jA.told (t:=[(0,.obj 245 ((.d (iq 1 iD u0))::List.map (aD (oz 1 iD)) (ul.set (IntKind.i64.wrap ((-1)-(r.getD 0 default))).toNat r_1))),(64,.obj 273 (List.map (aD bD) r_37.2))]) (AV.le_refl _) (by exact(zB ⟨rfl,Cr h_ (by first|exact(zf h_).2 trivial|exact(vj h_).2 trivial)⟩ (zB (zo.refl _) Cn)))) (jA.zG [64] (by simp)))) (jA.told Ee lM)
  refine qa ?_;refine qa ?_;refine jM (by kernel_rfl) (iR ?_);have hc:((r.getD 0 default) != (r_1.getD 0 default))=true:=by simp only[bw,dZ,gm,av,bR,bW,cI]at hc1 hc4 hc8⊢;omega
  refine uF hc ?_;refine kQ.mw .refl (IT (ms:=(sq 85 [.build [] [],.AP 263 (t0 85)])) (m:=⟨none,.D3 (t0 86),none⟩) (.iface 263 (.agg #[])) rfl (rK (iR ?_)));refine sy.D3 rfl rfl (iR ?_);cases h;refine E5 ?_;exact jA.trans (jA.refl) (jA.told Ee lM)
instance D0{a:gB}{b:gB}{u0:gB}{ul:gE}:iU (ki a b u0 ul) fun rr=>Bm (.iface 263 (.agg #[])) Tryz.prog 227 [.ptr 0 0,.d (iq 1 iD a),.d (iq 1 iD b)] [(0,.obj 245 ((.d (iq 1 iD u0))::List.map (aD (oz 1 iD)) ul))] 1 (fun rr:gE=>.mB []) (fun rr:gE=>[(0,.obj 245 ((.d (iq 1 iD u0))::List.map (aD (oz 1 iD)) rr))]) (fun rr:gE=>[(0,.obj 245 ((.d (iq 1 iD u0))::List.map (aD (oz 1 iD)) rr))]) rr:=⟨fun h=>tD (qO h).choose_spec⟩
end Go.Proofs.YtjgbnaihpicpgaaGreat
namespace Go.Proofs.YtjgbnaihpicpgaaGreat
open Go ng
set_option maxHeartbeats 4000000
set_option maxRecDepth 20000
theorem QE(p:Addr)(x:Bool)(w:World)(hc:w.cell? p=some (.bool x))(hz:w.frozen? p=false):
 CallsD Tryz.prog 226 #[.pointer (some p)] (.panicking [{v:=.iface 263 (.agg #[]),recovered:=false}]) w fun e u' w'=>
  e=.returned (.tuple #[])/\u'=.panicking [{v:=.iface 263 (.agg #[]),recovered:=true}]/\w'=(w.alloc (.cells #[] 263)).setCell p (.bool false):=by
 have hta:∀w:World,(Instr.typeAssert (.iface 263 (.agg #[])) 20 263 true).run Tryz.prog w=.ok (.tuple #[.agg #[],.bool true]) w:=fun w=>by rfl
 refine callsD_of_wpS Tryz.func226 rfl fun c₀ cs hu=>?_
 apply wpS_seq;apply wpS_region;simp[wpOpsS,go_sem,recoverD,hu,Tryz.ntmps226,Exit.thenS];refine wpS_of_wp ?_;have hb:p.block<w.heap.size:=by
  obtain⟨b,o,r⟩:=p;unfold World.cell? at hc;cases hq:w.heap[b]? with
  |none=>simp[hq]at hc
  |some x=>exact(aV.1 hq).1
 have hc':(w.alloc (Obj.cells #[] 263)).cell? p=some (.bool x):=(fK w _ _ hb).trans hc;have hz':(w.alloc (Obj.cells #[] 263)).frozen? p=false:=by rw[Go.RowKit.frozen?_alloc_cells];exact hz
 go_wp2
 simp[bodyPostS,results,Tryz.results226]
theorem QD(p:Addr)(w:World):
 CallsD Tryz.prog 226 #[.pointer (some p)] .returning w fun e u' w'=>e=.returned (.tuple #[])/\u'=.returning/\w'=w:=by
 refine callsD_of_wpS Tryz.func226 rfl fun c₀ cs hu=>?_
 apply wpS_seq;apply wpS_region;simp[wpOpsS,go_sem,recoverD,hu,Tryz.ntmps226,Exit.thenS];refine wpS_of_wp ?_
 go_wp2
 cases c₀
 simp_all[bodyPostS,results,Tryz.results226]
section
variable{C:Ctx}{β:iE}{s:iw}{w w':World}{n:Nat}
def Wd(C:Ctx)(β:iE)(s:iw)(n:Nat)(w:World):Ctx:={O:=fun b o=>C.O b o\/b=n,β:=β,s:=s,w:=w,k:=C.k}
def Vi(s:iw):Prop:=∀id,sat s id=.dead\/∃t cs,sat s id=.obj t cs
theorem UU(h:Inv C β s w)(hs:Vi s){o:Obj}(hsz:n=w.heap.size):Inv (Wd C β s n (w.alloc o)) β s (w.alloc o):=by
 have hio:zC (w.alloc o)=zC w:=rfl;have h1:Inv C β s (w.alloc o):=h.grown (by simp) hio fun b hb=>bX w o b hb
 have h2:=h1.here (K:=C.k);refine⟨aA _,rfl,fun _ _ _ h _=>h,fun _ _ _=>rfl,h2.qd,h2.tq,h2.pl,fun b o hO=>?_,fun id=>?_,h2.inj⟩
 ·rcases hO with hO|hO
  ·exact h2.low b o hO
  ·subst hO;refine⟨by show b<(w.alloc _).heap.size;simp;omega,fun hown=>?_⟩;have:=h.DC hown;omega
 ·have ho:=h.obs id;rcases hs id with hd|⟨t,cs,hd⟩
  ·rw[hd]at ho⊢;exact ho
  ·rw[hd]at ho⊢;obtain⟨b,vs,g1,g2,g3,g4⟩:=ho;have hb:b<w.heap.size:=(aV.1 g2).1;refine⟨b,vs,g1,(bX w o b hb).trans g2,g3,g4.imp fun vs hv=>AV.jL (fun b o v hc hn=>?_) (fun _=>.refl _) _ _ hv⟩;have hb':=pH hc;refine⟨(fK w _ _ hb').trans hc,fun hq=>?_⟩;rcases hq with(hq|hq)|hq
   ·exact hn (.inl hq)
   ·have hb'':b<w.heap.size:=hb';omega
   ·exact hn (.inr hq)
theorem QZ{β2:iE}{s2:iw}{w1 w2 w3:World}(h0:Inv C β s w)(hsz:n=w.heap.size)(hn1:n<w1.heap.size)(hk1:∀b,b<w.heap.size->w1.heap[b]?=w.heap[b]?)(hio1:zC w1=zC w)(h:Inv (Wd C β s n w1) β2 s2 w2)(hs:Vi s2)
 (h3:w2.heap.size<=w3.heap.size) (hio3:zC w3=zC w2) (hk3:∀b,b<w2.heap.size->b≠n->w3.heap[b]?=w2.heap[b]?):Inv C β2 s2 w3:=by
 have hw:w.heap.size<=w1.heap.size:=by omega
 have hcell1:∀b o v,w.cell? ⟨b,o,none⟩=some v->w1.cell? ⟨b,o,none⟩=some v:=fun b o v hc=>(cE (hk1 b (pH hc))).trans hc
 have hcell3:∀b o v,w2.cell? ⟨b,o,none⟩=some v->b≠n->w3.cell? ⟨b,o,none⟩=some v:=fun b o v hc hb=>(cE (hk3 b (pH hc) hb)).trans hc
 have hsz2:w1.heap.size<=w2.heap.size:=h.size;have hback:Inv {C with β:=β,s:=s,w:=w,k:=C.k} β2 s2 w3:=by
  refine⟨by show w.heap.size<=_;omega,by rw[hio3];exact h.io.trans hio1,fun b o v hc hno=>?_,fun b hb hno=>?_,fun b o ho=>?_,fun id b hb=>?_,h.pl,fun b o ho=>?_,fun id=>?_,h.inj⟩
  ·have hb:b<w.heap.size:=pH hc;exact hcell3 b o v (h.keep b o v (hcell1 b o v hc) hno) h_
  ·have hb':b<w.heap.size:=hb;exact(hk3 b h_ h_).trans ((h.qN b (by show b<w1.heap.size;omega) hno).trans (hk1 b hb'))
  ·rcases h.qd b o ho with g|g
   ·exact .inl g
   ·refine .inr ?_;have:w1.heap.size<=b:=g;show w.heap.size<=b;omega
  ·rcases h.tq id b hb with g|g
   ·exact .inl g
   ·refine .inr ?_;have:w1.heap.size<=b:=g;show w.heap.size<=b;omega
  ·have g:=(h0.here (K:=C.k)).low b o ho;exact g
  ·have ho:=h.obs id;rcases hs id with hd|⟨t,cs,hd⟩
   ·rw[hd]at ho⊢;exact ho
   ·have hbo:∀b,β2 id=.FK b->b≠n:=fun b hb e=>by
     have hblk:ig β2 s2 id b:=by unfold ig;rw[hd];exact hb
     rcases h.tq id b hblk with⟨i,g⟩|g
     ·have:=h0.sX (show ig β s i b from g);omega
     ·have:w1.heap.size<=b:=g;omega
    rw[hd]at ho⊢;obtain⟨b,vs,g1,g2,g3,g4⟩:=ho;refine⟨b,vs,g1,(hk3 b (aV.1 g2).1 (hbo b g1)).trans g2,g3,g4.imp fun vs hv=>AV.jL (fun b o v hc hn=>?_) (fun _=>.refl _) _ _ hv⟩;have hbn:b≠n:=fun e=>hn (.inl (.inr e))
    refine⟨hcell3 b o v hc hbn,fun hq=>?_⟩;rcases hq with hq|hq
    ·exact hn (.inl (.inl hq))
    ·exact hn (.inr hq)
 exact h0.back hback (aA _)
end
theorem Hp{a b u0:gB}{ul:List gB}{rr:List gB⊕List gB}
 (hc:Bm (.iface 263 (.agg #[])) Tryz.prog 227 [.ptr 0 0,.d (iq 1 iD a),.d (iq 1 iD b)] [(0,.obj 245 ((.d (iq 1 iD u0))::List.map (aD (oz 1 iD)) ul))] 1 (fun rr:gE=>.mB []) (fun rr:gE=>[(0,.obj 245 ((.d (iq 1 iD u0))::List.map (aD (oz 1 iD)) rr))]) (fun rr:gE=>[(0,.obj 245 ((.d (iq 1 iD u0))::List.map (aD (oz 1 iD)) rr))]) rr):
 iH Tryz.prog 208 [.ptr 0 0,.d (iq 1 iD a),.d (iq 1 iD b)] [(0,.obj 245 ((.d (iq 1 iD u0))::List.map (aD (oz 1 iD)) ul))] 1 fun xx ss=>xx=.d (bD (Sum.elim (fun _=>true) (fun _=>false) rr))/\ss=[(0,.obj 245 ((.d (iq 1 iD u0))::List.map (aD (oz 1 iD)) (Sum.elim id id rr)))]:=by
 intro C vs hCs hCk hinv hargs;have hargs':=hargs;simp only[AV.iP]at hargs';obtain⟨v0,r0,e0,h0,v1,r1,e1,h1,v2,r2,e2,h2,e3⟩:=hargs';subst e3 e2 e1;have hvs:vs=#[v0,v1,v2]:=dF (by simpa using e0);subst hvs;have hmf:∀(fn:Fn)(first cap:Array Value)(w:World),(Instr.makeFunc fn first cap).run Tryz.prog w=.ok (.func fn first cap) w:=fun _ _ _ _=>rfl
 have hobjs:Vi C.s:=fun id=>by
  rw[hCs];by_cases hi:id=0
  ·subst hi;exact .inr ⟨_,_,rfl⟩
  ·left;simp[sat,hi]
 have hin:=UU (n:=C.w.heap.size) hinv hobjs (o:=.cells #[.bool false] 4) rfl;have hargs1:AV.iP C.β ((Wd C C.β C.s C.w.heap.size (C.w.alloc (.cells #[.bool false] 4))).iz C.β C.s) (C.w.alloc (.cells #[.bool false] 4)) [.ptr 0 0,.d (iq 1 iD a),.d (iq 1 iD b)] [v0,v1,v2]:=
  AV.jL (fun b o v hcl hn=>⟨(fK C.w _ _ (pH hcl)).trans hcl,fun hq=>by
   rcases hq with(hq|hq)|hq
   ·exact hn (.inl hq)
   ·have:=pH hcl;omega
   ·exact hn (.inr hq)⟩) (fun _=>.refl _) _ _ hargs
 have hcall:=hc (Wd C C.β C.s C.w.heap.size (C.w.alloc (.cells #[.bool false] 4))) #[v0,v1,v2] hCs hCk hin hargs1;have hin1:(C.w.alloc (.cells #[.bool false] 4)).heap.size=C.w.heap.size+1:=by simp
 have fin:∀(bb:Bool)(r:List gB)(β2:iE)(w2 w3:World),Sum.elim (fun _=>true) (fun _=>false) rr=bb->Sum.elim id id rr=r->Inv (Wd C C.β C.s C.w.heap.size (C.w.alloc (.cells #[.bool false] 4))) β2 [(0,.obj 245 ((.d (iq 1 iD u0))::List.map (aD (oz 1 iD)) r))] w2->
  w2.heap.size<=w3.heap.size->zC w3=zC w2->(∀b,b<w2.heap.size->b≠C.w.heap.size->w3.heap[b]?=w2.heap[b]?)->
  ∃v x β' s',Ending.returned (.bool bb)=.returned v/\Inv C β' s' w3/\AV.ok β' (C.iz β' s') w3 x v/\(x=.d (bD (Sum.elim (fun _=>true) (fun _=>false) rr))/\s'=[(0,.obj 245 ((.d (iq 1 iD u0))::List.map (aD (oz 1 iD)) (Sum.elim id id rr)))]):=by
  intro bb r β2 w2 w3 e1 e2 hI h3 hio3 hk3;refine⟨_,_,β2,_,rfl,?_,?_,rfl,rfl⟩
  ·rw[e2];refine QZ (n:=C.w.heap.size) (w1:=C.w.alloc (.cells #[.bool false] 4)) hinv rfl h_ (fun b hb=>bX C.w _ b hb) rfl hI (fun id=>?_) h3 hio3 hk3;by_cases hi:id=0
   ·subst hi;exact .inr ⟨_,_,rfl⟩
   ·left;simp[sat,hi]
  ·rw[e1];exact vo rfl
 have hcall2:Calls Tryz.prog 227 #[v0,v1,v2] (C.w.alloc (.cells #[.bool false] 4)) fun e w2=>
  (∃u,e=.returned u/\w2.heap[C.w.heap.size]?=some (.cells #[.bool false] 4 (0,0))/\w2.cell? ⟨C.w.heap.size,0,none⟩=some (.bool false)/\w2.frozen? ⟨C.w.heap.size,0,none⟩=false/\∀w3,w2.heap.size<=w3.heap.size->zC w3=zC w2->(∀b,b<w2.heap.size->b≠C.w.heap.size->w3.heap[b]?=w2.heap[b]?)->
   ∃v x β' s',Ending.returned (.bool true)=.returned v/\Inv C β' s' w3/\AV.ok β' (C.iz β' s') w3 x v/\(x=.d (bD (Sum.elim (fun _=>true) (fun _=>false) rr))/\s'=[(0,.obj 245 ((.d (iq 1 iD u0))::List.map (aD (oz 1 iD)) (Sum.elim id id rr)))]))\/
  (e=.panicked [{v:=.iface 263 (.agg #[]),recovered:=false}]/\w2.heap[C.w.heap.size]?=some (.cells #[.bool false] 4 (0,0))/\w2.cell? ⟨C.w.heap.size,0,none⟩=some (.bool false)/\w2.frozen? ⟨C.w.heap.size,0,none⟩=false/\∀w3,w2.heap.size<=w3.heap.size->zC w3=zC w2->(∀b,b<w2.heap.size->b≠C.w.heap.size->w3.heap[b]?=w2.heap[b]?)->
   ∃v x β' s',Ending.returned (.bool false)=.returned v/\Inv C β' s' w3/\AV.ok β' (C.iz β' s') w3 x v/\(x=.d (bD (Sum.elim (fun _=>true) (fun _=>false) rr))/\s'=[(0,.obj 245 ((.d (iq 1 iD u0))::List.map (aD (oz 1 iD)) (Sum.elim id id rr)))])):=by
  refine hcall.mono ?_;rintro e w2 ⟨v,x,β2,s2,hE,hI,hx,rfl,rfl⟩;have hblk:∀id,¬ig C.β C.s id C.w.heap.size:=fun id hb=>by have:=hinv.sX hb;omega
  have hheap:w2.heap[C.w.heap.size]?=some (.cells #[.bool false] 4 (0,0)):=(hI.qN C.w.heap.size (by show _<(C.w.alloc _).heap.size;omega) hblk).trans (eI C.w _);have hcl:w2.cell? ⟨C.w.heap.size,0,none⟩=some (.bool false):=by simp[World.cell?,hheap]
  have hfz:w2.frozen? ⟨C.w.heap.size,0,none⟩=false:=by simp[World.frozen?,hheap]
  cases rr with
  |inl r=>
   rcases hE with⟨u,rfl,rfl⟩|⟨rfl,rfl⟩
   ·exact .inl ⟨u,rfl,hheap,hcl,hfz,fun w3 h3 hio3 hk3=>fin true r β2 w2 w3 rfl rfl hI h3 hio3 hk3⟩
   ·exfalso;simp only[ei,okB,AV.ok,AV.iP,D.ok]at hx;obtain⟨vs,hvs,p0,q0,k0,_,p1,q1,k1,⟨k2,_⟩,_⟩:=hx;cases hvs;simp only[bV]at k0;obtain⟨rfl,rfl⟩:=k0;simp only[bV]at k1;obtain⟨rfl,rfl⟩:=k1;cases k2
  |inr r=>
   rcases hE with⟨u,rfl,rfl⟩|⟨rfl,rfl⟩
   ·exfalso;simp only[eO,okB,AV.ok,AV.iP,D.ok]at hx;obtain⟨vs,hvs,p0,q0,k0,_,p1,q1,k1,⟨k2,_⟩,_⟩:=hx;cases hvs;simp only[bV]at k0;obtain⟨rfl,rfl⟩:=k0;simp only[bV]at k1;obtain⟨rfl,rfl⟩:=k1;cases k2
   ·exact .inr ⟨rfl,hheap,hcl,hfz,fun w3 h3 hio3 hk3=>fin false r β2 w2 w3 rfl rfl hI h3 hio3 hk3⟩
 clear hcall fin hargs1 hin
 go_enter_defers Tryz.func208,Tryz.ntmps208
 go_wp2_with (go_at_call 227;refine hcall2.mono ?_;rintro e w2 (⟨u,rfl,hh,hcl,hfz,hf⟩|⟨rfl,hh,hcl,hfz,hf⟩))
 ·refine leaves_cons (f:=226) (args:=#[.pointer (some ⟨C.w.heap.size,0,none⟩)]) (by simp) (by simp[go_sem]) ?_;refine(QD ⟨C.w.heap.size,0,none⟩ _).mono ?_;rintro e u' w'' ⟨rfl,rfl,rfl⟩;simp[Leaves,settle,results,Tryz.results208,go_sem];have hc3:(w2.setCell ⟨C.w.heap.size,0,none⟩ (.bool true)).cell? ⟨C.w.heap.size,0,none⟩=some (.bool true):=by simp only[World.cell?,heap_setCell_same _ _ 0 _ _ _ hh];simp
  rw[hc3];obtain⟨v,x,β',s',e,hq⟩:=hf (w2.setCell ⟨C.w.heap.size,0,none⟩ (.bool true)) (by simp) rfl (fun b hb hne=>gw _ _ _ _ hne);cases e;exact⟨_,rfl,x,β',s',hq⟩
 ·refine leaves_cons (f:=226) (args:=#[.pointer (some ⟨C.w.heap.size,0,none⟩)]) (by simp) (by simp[go_sem]) ?_;refine(QE ⟨C.w.heap.size,0,none⟩ false _ hcl hfz).mono ?_;rintro e u' w'' ⟨rfl,rfl,rfl⟩;simp[Leaves,settle,results,Tryz.results208,go_sem];have hlt:C.w.heap.size<w2.heap.size:=(aV.1 hh).1;have hh2:(w2.alloc (Obj.cells #[] 263)).heap[C.w.heap.size]?=some (.cells #[.bool false] 4 (0,0)):=(bX w2 _ _ hlt).trans hh;have hc3:((w2.alloc (Obj.cells #[] 263)).setCell ⟨C.w.heap.size,0,none⟩ (.bool false)).cell? ⟨C.w.heap.size,0,none⟩=some (.bool false):=by simp only[World.cell?,heap_setCell_same _ _ 0 _ _ _ hh2];simp
  rw[hc3];obtain⟨v,x,β',s',e,hq⟩:=hf ((w2.alloc (Obj.cells #[] 263)).setCell ⟨C.w.heap.size,0,none⟩ (.bool false)) (by simp) rfl (fun b hb hne=>(gw _ _ _ _ hne).trans (bX w2 _ _ hb));cases e;exact⟨_,rfl,x,β',s',hq⟩
def mm(a b u0:gB)(ul:List gB):Option (Bool×List gB):=
 (ki a b u0 ul).map fun rr=>(Sum.elim (fun _=>true) (fun _=>false) rr,Sum.elim id id rr)
instance Gb{a b u0:gB}{ul:List gB}:iU (mm a b u0 ul) fun rr=>iH Tryz.prog 208 [.ptr 0 0,.d (iq 1 iD a),.d (iq 1 iD b)] [(0,.obj 245 ((.d (iq 1 iD u0))::List.map (aD (oz 1 iD)) ul))] 1 fun xx ss=>xx=.d (bD rr.1)/\ss=[(0,.obj 245 ((.d (iq 1 iD u0))::List.map (aD (oz 1 iD)) rr.2))]:=⟨fun h=>by
 obtain⟨r,h1,rfl⟩:=ay.1 h;exact Hp (iU.c h1)⟩
end Go.Proofs.YtjgbnaihpicpgaaGreat
