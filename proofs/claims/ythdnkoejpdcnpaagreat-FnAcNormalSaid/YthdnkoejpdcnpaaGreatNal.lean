/- A part of the proof about FnAcNormal and about FnAcSteps (D7_1, D7_2, D7_3, D7_4, D7_5, D7_6). -/
import Derived.Test.YthdnkoejpdcnpaaGreatNak
set_option linter.all false
noncomputable section
namespace Go.Proofs.YthdnkoejpdcnpaaGreat
open Go kI
attribute [local irreducible] sO uf uc lu kf pG iV xm xQ wz xP wu pY kr lq xO ia jN
set_option maxHeartbeats 4000000
set_option maxRecDepth 4000
def XN:gH:=
 (.seq (.gD (sq 2 [.mv (.const (.pointer none))])) (.seq (.gD (sq 5 [mv 0,ln 5,.bin .add (i0 570029) (t0 6)]++sq 3 [mv 7])) (.seq (.seq (.gD (sq 4 [mi 0])) (.block 0 (.loop (.seq (.seq (.gD (sq 8 [mv 4,mv 0,ln 9,bn .lss 8 10])) (.cond (t0 11) .skip (.exit 0))) (.seq (.block 1 (.gD (sq 14 [mv 3,bi .mul 14 317,mv 0,mv 4,ix 1 16 17,ld 18,.conv .i64 (t0 19),bn .add 15 20,bi .add 21 11,bi .and 22 1073741823]++sq 3 [mv 23]))) (.gD (sq 12 [mv 4,bi .add 12 1]++sq 4 [mv 13]))))))) (.seq (.gD (sq 24 [mv 0,mv 3,.build [.sl 0 (some true) [],.lit (.int .i64 0),.lit (.int .i64 0)] [(0,1,(t0 24)),(2,1,(t0 25))],bo 27 119 26]++sq 2 [mv 27])) .ret))))
theorem Zf:jT Tryz.prog 56 XN 28 [.tmp 2]:=mf Tryz.func56 Tryz.ntmps56
def vn(code:fP):gr->Option (gr⊕fS)
 |(h',i)=>
  if(decide (i<(code.length:Int)))=true then
   if 0<=i/\i<(code.length:Int)then
    some (.inl ((zW .i64 (IntKind.i64.wrap ((IntKind.i64.wrap ((IntKind.i64.wrap (h'*317))+(IntKind.i64.wrap (code.getD i.toNat default))))+11)) 1073741823),(IntKind.i64.wrap (i+1))))
   else none
  else
   Option.map Sum.inr (
    some (code,0,h'))
def qV(code:fP):Option fS:=
 gK (vn code) ((IntKind.i64.wrap (570029+(code.length:Int))),0)
instance Qr{code:fP}:gW (qV code) fun rr=>gN Tryz.prog 56 [.d (gE 1 (kD .u8) code)] [] 0 fun xx ss=>xx=.ptr 27 0/\ss=[(27,.obj 119 [.d (gE 1 (kD .u8) rr.1),.d (iD rr.2.1),.d (iD rr.2.2)])]:=⟨@fun rr h=>by
 delta qV at h;refine Zf.jO (gC ?_);delta XN;refine g_ ?_;refine jk h [3,4,8,9,10,11,12,13,14,15,16,17,18,19,20,21,22,23] (fun pp=>[(3,.d (iD pp.1)),(4,.d (iD pp.2))]) (fun pp=>[]) ?_;rintro⟨h',i⟩ t1 h hb1;unfold vn at h;try dsimp only at h
 refine gC (g_ ?_);exact mm⟩
def SL:gH:=
 (.seq (.gD (sq 2 [mi 0])) (.seq (.gD (sq 4 [mv 0,mv 0,.mA (t0 5),fa 2 6,ld 7,bi .mul 8 6364136223846793005,bi .add 9 1442695040888963407,.mA (t0 4),fa 2 11]++s0 (sr 1 12 10))) (.seq (.draw (sq 13 [mv 0,.mA (t0 13),fa 2 14,ld 15,.bin .shr (t0 16) (.const (.int .u64 33)),mv 0,.mA (t0 18),fa 2 19,ld 20,.bin .shr (t0 21) (.const (.int .u64 45)),bn .xor 17 22,bi .and 23 255]++sq 3 [mv 24]) [[],[0],[1],[2],[3],[],[5],[6],[7],[8],[4,9],[10],[11,0,1,2,3,4,5,6,7,8,9,10,11]]) (.seq (.seq (.draw (sq 25 [mv 0,.mA (t0 25),fa 1 26,ld 27,mv 0,.mA (t0 29),fa 0 30,ld 31,ln 32,bn .lss 28 33]) [[],[0],[1],[2],[],[4],[5],[6],[7],[3,8]]) (.cond (t0 34) (.seq (.draw (sq 35 [mv 3,mv 0,.mA (t0 36),fa 0 37,ld 38,mv 0,.mA (t0 40),fa 1 41,ld 42,ix 1 39 43,ld 44,.conv .i64 (t0 45),bn .add 35 46,bi .and 47 255]++sq 3 [mv 48]) [[],[],[1],[2],[3],[],[5],[6],[7],[4,8],[9],[10],[0,11],[12],[13,0,1,2,3,4,5,6,7,8,9,10,11,12,13]]) (.gD (sq 49 [mv 0,mv 0,.mA (t0 50),fa 1 51,ld 52,bi .add 53 1,.mA (t0 49),fa 1 55]++s0 (sr 1 56 54)))) .skip)) (.seq (.gD (sq 57 [mv 3]++sq 2 [mv 57])) .ret)))))
theorem Wu:jT Tryz.prog 132 SL 58 [.tmp 2]:=mf Tryz.func132 Tryz.ntmps132
def mK(c0:fP)(c1:Int)(c2:Int):Option (Int×Int×Int):=
 if(decide (c1<(c0.length:Int)))=true then
  if 0<=c1/\c1<(c0.length:Int)then
   some ((zW .i64 (IntKind.i64.wrap ((zW .i64 (Mf .i64 (Bn .i64 (IntKind.i64.wrap ((IntKind.i64.wrap (c2*6364136223846793005))+1442695040888963407)) 33) (Bn .i64 (IntKind.i64.wrap ((IntKind.i64.wrap (c2*6364136223846793005))+1442695040888963407)) 45)) 255)+(IntKind.i64.wrap (c0.getD c1.toNat default)))) 255),(IntKind.i64.wrap (c1+1)),(IntKind.i64.wrap ((IntKind.i64.wrap (c2*6364136223846793005))+1442695040888963407)))
  else none
 else
  some ((zW .i64 (Mf .i64 (Bn .i64 (IntKind.i64.wrap ((IntKind.i64.wrap (c2*6364136223846793005))+1442695040888963407)) 33) (Bn .i64 (IntKind.i64.wrap ((IntKind.i64.wrap (c2*6364136223846793005))+1442695040888963407)) 45)) 255),c1,(IntKind.i64.wrap ((IntKind.i64.wrap (c2*6364136223846793005))+1442695040888963407)))
instance PG{c0:fP}{c1:Int}{c2:Int}:gW (mK c0 c1 c2) fun rr=>gN Tryz.prog 132 [.ptr 0 0] [(0,.obj 119 [.d (gE 1 (kD .u8) c0),.d (iD c1),.d (iD c2)])] 1 fun xx ss=>xx=.d (iD rr.1)/\ss=[(0,.obj 119 [.d (gE 1 (kD .u8) c0),.d (iD rr.2.1),.d (iD rr.2.2)])]:=⟨@fun rr h=>by
 delta mK at h;refine Wu.jO (gC ?_);delta SL;refine g_ ?_;exact mm⟩
def X0:gH:=
 (.seq (.gD (sq 4 [mi 0])) (.seq (.seq (.gD (sq 9 [mv 1,bi .leq 9 0])) (.cond (t0 10) (.seq (.gD (sq 4 [mi 0])) .ret) .skip)) (.seq (.seq (.gD (sq 11 [mv 1,bi .leq 11 256])) (.cond (t0 12) (.seq (.gD (sq 13 [mv 0,cf 132 [13],mv 1,bn .rem 14 15]++sq 4 [mv 16])) .ret) .skip)) (.seq (.gD (sq 17 [mv 0,cf 132 [17]]++sq 5 [mv 18])) (.seq (.gD (sq 19 [mv 0,cf 132 [19]]++sq 6 [mv 20])) (.seq (.gD (sq 21 [mv 0,cf 132 [21]]++sq 7 [mv 22])) (.seq (.gD (sq 23 [mv 0,cf 132 [23]]++sq 8 [mv 24])) (.seq (.gD (sq 25 [mv 5,bi .mul 25 16777216,mv 6,bi .mul 27 65536,bn .add 26 28,mv 7,bi .mul 30 256,bn .add 29 31,mv 8,bn .add 32 33,mv 1,bn .rem 34 35]++sq 4 [mv 36])) .ret))))))))
theorem Zs:jT Tryz.prog 77 X0 37 [.tmp 4]:=mf Tryz.func77 Tryz.ntmps77
def gI(n:Int)(c0:fP)(c1:Int)(c2:Int):Option (Int×Int×Int):=
 if(decide (n<=0))=true then
  some (0,c1,c2)
 else
  if(decide (n<=256))=true then
   (mK c0 c1 c2).bind fun r=>
   if n≠0 then
    some ((r.1.tmod n),r.2.1,r.2.2)
   else none
  else
   (mK c0 c1 c2).bind fun r_1=>
   (mK c0 r_1.2.1 r_1.2.2).bind fun r_2=>
   (mK c0 r_2.2.1 r_2.2.2).bind fun r_3=>
   (mK c0 r_3.2.1 r_3.2.2).bind fun r_4=>
   if n≠0 then
    some (((IntKind.i64.wrap ((IntKind.i64.wrap ((IntKind.i64.wrap ((IntKind.i64.wrap (r_1.1*16777216))+(IntKind.i64.wrap (r_2.1*65536))))+(IntKind.i64.wrap (r_3.1*256))))+r_4.1)).tmod n),r_4.2.1,r_4.2.2)
   else none
instance M1{n:Int}{c0:fP}{c1:Int}{c2:Int}:gW (gI n c0 c1 c2) fun rr=>gN Tryz.prog 77 [.ptr 0 0,.d (iD n)] [(0,.obj 119 [.d (gE 1 (kD .u8) c0),.d (iD c1),.d (iD c2)])] 1 fun xx ss=>xx=.d (iD rr.1)/\ss=[(0,.obj 119 [.d (gE 1 (kD .u8) c0),.d (iD rr.2.1),.d (iD rr.2.2)])]:=⟨@fun rr h=>by
 delta gI at h;refine Zs.jO (gC ?_);delta X0;refine g_ ?_;refine iF h fun hc h=>?_
 refine it h (fun hc h=>?_) fun hc h=>?_
 ·refine lM [(0,0)] [] h fun r hr h=>?_
  exact mm
 refine lM [(0,0)] [] h fun r_1 hr_1 h=>?_
 refine lM [(0,0)] [] h fun r_2 hr_2 h=>?_
 refine lM [(0,0)] [] h fun r_3 hr_3 h=>?_
 refine lM [(0,0)] [] h fun r_4 hr_4 h=>?_
 exact mm⟩
def XY:gH:=
 (.seq (.gD (sq 4 [mb false])) (.seq (.gD (sq 5 [mv 0,mv 1,cf 77 [5,6],bi .eql 7 0]++sq 4 [mv 8])) .ret))
theorem Zq:jT Tryz.prog 75 XY 9 [.tmp 4]:=mf Tryz.func75 Tryz.ntmps75
def gR(n:Int)(c0:fP)(c1:Int)(c2:Int):Option gw:=
 (gI n c0 c1 c2).bind fun r=>
 some ((r.1==0),r.2.1,r.2.2)
instance PK{n:Int}{c0:fP}{c1:Int}{c2:Int}:gW (gR n c0 c1 c2) fun rr=>gN Tryz.prog 75 [.ptr 0 0,.d (iD n)] [(0,.obj 119 [.d (gE 1 (kD .u8) c0),.d (iD c1),.d (iD c2)])] 1 fun xx ss=>xx=.d (bD rr.1)/\ss=[(0,.obj 119 [.d (gE 1 (kD .u8) c0),.d (iD rr.2.1),.d (iD rr.2.2)])]:=⟨@fun rr h=>by
 delta gR at h;refine Zq.jO (gC ?_);delta XY;refine g_ ?_;refine lM [(0,0)] [] h fun r hr h=>?_
 exact mm⟩
def S5:gH:=
 (.seq (.gD (sq 2 [.alloc 2 27 [.sl 0 (some true) []]])) (.seq (.gD (sq 5 [.lQ 5 2 1 [(i0 2),(i0 1),(i0 0)],.build [.sl 0 (some true) []] [(0,1,(t0 5))]]++sq 3 [.alloc 3 27 [.sl 0 (some true) []]]++s0 (sr 1 3 6))) (.seq (.seq (.gD (sq 7 [mv 0,.iw 75 [(t0 7),(i0 4)]])) (.cond (t0 8) (.seq (.gD (sq 9 [.lQ 9 2 1 [(i0 0)],.build [.sl 0 (some true) []] [(0,1,(t0 9))]]++s0 (sr 1 3 10))) (.seq (.gD (sq 11 [mv 0,.iw 77 [(t0 11),(i0 4)]]++sq 4 [mv 12])) (.block 0 (.loop (.seq (.seq (.gD (sq 13 [mv 4,bi .gtr 13 0])) (.cond (t0 14) .skip (.exit 0))) (.seq (.block 1 (.draw (sq 17 [fa 0 3,ld 17,mv 0,.iw 77 [(t0 19),(i0 3)],.lQ 21 2 1 [(t0 20)],ap 22 2 1 8 18 21,fa 0 3]++s0 (sr 1 23 22)) [[],[0],[],[2],[3],[1,4,3],[0,1,2,3,4,5],[6,5,5,0,1,2,3,4,5]])) (.gD (sq 15 [mv 4,bi .sub 15 1]++sq 4 [mv 16])))))))) .skip)) (.seq (.gD (sq 24 [la 1 3]++s0 (sr 1 2 24))) .ret))))
theorem WN:jT Tryz.prog 157 S5 25 [.cell 2 1 true]:=mf Tryz.func157 Tryz.ntmps157
def vB(c0:fP):gy->Option (gy⊕fS)
 |(n,c,c_1,sig)=>
  if(decide (0<n))=true then
   (gI 3 c0 c c_1).bind fun r_2=>
   if(sig.length+1)*8<=140737488355328 then
    some (.inl ((IntKind.i64.wrap (n-1)),r_2.2.1,r_2.2.2,(sig++[r_2.1])))
   else none
  else
   Option.map Sum.inr (
    some (sig,c,c_1))
def oR(c0:fP)(c1:Int)(c2:Int):Option fS:=
 (gR 4 c0 c1 c2).bind fun r=>
 if r.1=true then
  (gI 4 c0 r.2.1 r.2.2).bind fun r_1=>
  gK (vB c0) (r_1.1,r_1.2.1,r_1.2.2,[0])
 else
  some ([2,1,0],r.2.1,r.2.2)
instance K1{c0:fP}{c1:Int}{c2:Int}:gW (oR c0 c1 c2) fun rr=>gN Tryz.prog 157 [.ptr 0 0] [(0,.obj 119 [.d (gE 1 (kD .u8) c0),.d (iD c1),.d (iD c2)])] 1 fun xx ss=>xx=.d (.agg [gE 1 iD rr.1])/\ss=[(0,.obj 119 [.d (gE 1 (kD .u8) c0),.d (iD rr.2.1),.d (iD rr.2.2)])]:=⟨@fun rr h=>by
 delta oR at h;refine WN.jO (gC ?_);delta S5;refine g_ ?_;refine lM [(0,0)] [] h fun r hr h=>?_
 refine it h (fun hc h=>?_) fun hc h=>?_
 ·refine lM [(0,0)] [] h fun r_1 hr_1 h=>?_
  refine jk h [4,13,14,15,16,17,18,19,20,21,22,23] (fun pp=>[(4,.d (iD pp.1))]) (fun pp=>[(0,.obj 119 [.d (gE 1 (kD .u8) c0),.d (iD pp.2.1),.d (iD pp.2.2.1)]),(2,.obj 27 [.d (.sl 0 (some true) [])]),(3,.obj 27 [.own 1 9 (List.map iD pp.2.2.2)]),(5,.tok 2 1 3),(9,.tok 2 1 pp.2.2.2.length)]) ?_;rintro⟨n,c,c_1,sig⟩ t1 h hb1;unfold vB at h;try dsimp only at h
  refine gC (g_ ?_);refine it h (fun hc h=>?_) fun hc h=>?_
  ·refine xN [(0,0)] [] h fun r_2 hr_2 h=>?_
   refine iU h fun hp h=>?_
   refine i_ (by kernel_rfl) (g_ ?_);cases h;refine⟨_,rfl,?_⟩;refine(gT.drop 21 gB).trans ?_;exact wk
  replace h:=gY h hb1;cases h;exact⟨[2,3,5,9],by simp,jF,jF⟩
 cases h;exact⟨[2,3,5],by simp,jF,jF⟩⟩
end Go.Proofs.YthdnkoejpdcnpaaGreat
namespace Go.Proofs.YthdnkoejpdcnpaaGreat
open Go kI
attribute [local irreducible] sO uf uc lu kf pG iV xm xQ wz xP wu pY kr lq xO ia jN
set_option maxHeartbeats 4000000
def SJ:gH:=
 (.seq (.gD (sq 2 [mi 0])) (.seq (.gD (sq 3 [.lQ 3 2 1 [(i0 (-1)),(i0 0),(i0 1),(i0 2147483648),(i0 (-2147483648)),(i0 1099511627776),(i0 4611686018427387904),(i0 (-4611686018427387904)),(i0 9223372036854775807),(i0 (-9223372036854775808))],mv 0,.iw 77 [(t0 4),(i0 10)],ix 1 3 5,ld 6]++sq 2 [mv 7])) .ret))
theorem Ws:jT Tryz.prog 130 SJ 8 [.tmp 2]:=mf Tryz.func130 Tryz.ntmps130
def qW(c0:fP)(c1:Int)(c2:Int):Option (Int×Int×Int):=
 (gI 10 c0 c1 c2).bind fun r=>
 if 0<=r.1/\r.1<10 then
  some (([(-1),0,1,2147483648,(-2147483648),1099511627776,4611686018427387904,(-4611686018427387904),9223372036854775807,(-9223372036854775808)].getD r.1.toNat default),r.2.1,r.2.2)
 else none
instance Qt{c0:fP}{c1:Int}{c2:Int}:gW (qW c0 c1 c2) fun rr=>gN Tryz.prog 130 [.ptr 0 0] [(0,.obj 119 [.d (gE 1 (kD .u8) c0),.d (iD c1),.d (iD c2)])] 1 fun xx ss=>xx=.d (iD rr.1)/\ss=[(0,.obj 119 [.d (gE 1 (kD .u8) c0),.d (iD rr.2.1),.d (iD rr.2.2)])]:=⟨@fun rr h=>by
 delta qW at h;refine Ws.jO (gC ?_);delta SJ;refine g_ ?_;refine lM [(0,0)] [] h fun r hr h=>?_
 obtain⟨hp,h⟩:=rf h;repeat(refine tW gB ?_;try simp(maxSteps:=1000000) (disch:=omega)only[go_sem,<-List.map_take,<-List.map_drop,FG,Nat.reduceAdd,Nat.reduceSub,Nat.reduceLeDiff,Nat.reduceEqDiff,Nat.reduceLT,Int.reduceToNat,reduceIte,reduceCtorEq,Dw (l:=[iD (-1),iD 0,iD 1,iD 2147483648,iD (-2147483648),iD 1099511627776,iD 4611686018427387904,iD (-4611686018427387904),iD 9223372036854775807,iD (-9223372036854775808)]) (f:=iD) (xs:=[(-1),0,1,2147483648,(-2147483648),1099511627776,4611686018427387904,(-4611686018427387904),9223372036854775807,(-9223372036854775808)]) rfl (n:=10) rfl])
 cases h;exact⟨[3],by simp,jF,jF⟩⟩
def SK:gH:=
 (.seq (.gD (sq 4 [mi 0])) (.seq (.seq (.gD (sq 5 [mv 0,mv 1,bn .lss 5 6])) (.cond (t0 7) (.seq (.gD (sq 8 [mv 0]++sq 4 [mv 8])) .ret) .skip)) (.seq (.gD (sq 9 [mv 1]++sq 4 [mv 9])) .ret)))
theorem Wt:jT Tryz.prog 131 SK 10 [.tmp 4]:=mf Tryz.func131 Tryz.ntmps131
def vF(a:Int)(b:Int):Option Int:=
 if(decide (a<b))=true then
  some a
 else
  some b
instance Qq{a:Int}{b:Int}:gW (vF a b) fun rr=>iC Tryz.prog 131 [iD a,iD b] (iD rr):=⟨@fun rr h=>by
 delta vF at h;refine Wt.iA (gC ?_);delta SK;refine g_ ?_;exact mm⟩
def XZ:gH:=
 (.seq (.gD (sq 4 [mi 0])) (.seq (.seq (.gD (sq 5 [mv 0,.iw 75 [(t0 5),(i0 10)]])) (.cond (t0 6) (.seq (.gD (sq 7 [mv 1,mv 1,bi .add 8 1,mv 0,cf 130 [10],.lQ 12 2 1 [(i0 (-1)),(t0 7),(t0 9),(t0 11)],mv 0,.iw 77 [(t0 13),(i0 4)],ix 1 12 14,ld 15]++sq 4 [mv 16])) .ret) .skip)) (.seq (.seq (.gD (sq 17 [mv 0,.iw 75 [(t0 17),(i0 2)]])) (.cond (t0 18) (.seq (.gD (sq 19 [mv 0,mv 1,.iw 131 [(t0 20),(i0 4)],bi .add 21 1,cf 77 [19,22]]++sq 4 [mv 23])) .ret) .skip)) (.seq (.gD (sq 24 [mv 0,mv 1,bi .add 25 1,cf 77 [24,26]]++sq 4 [mv 27])) .ret))))
theorem Zr:jT Tryz.prog 76 XZ 28 [.tmp 4]:=mf Tryz.func76 Tryz.ntmps76
def pQ(most:Int)(c0:fP)(c1:Int)(c2:Int):Option (Int×Int×Int):=
 (gR 10 c0 c1 c2).bind fun r=>
 if r.1=true then
  (qW c0 r.2.1 r.2.2).bind fun r_1=>
  (gI 4 c0 r_1.2.1 r_1.2.2).bind fun r_2=>
  if 0<=r_2.1/\r_2.1<4 then
   some (([(-1),most,(IntKind.i64.wrap (most+1)),r_1.1].getD r_2.1.toNat default),r_2.2.1,r_2.2.2)
  else none
 else
  (gR 2 c0 r.2.1 r.2.2).bind fun r_3=>
  if r_3.1=true then
   (vF most 4).bind fun r_4=>
   (gI (IntKind.i64.wrap (r_4+1)) c0 r_3.2.1 r_3.2.2).bind fun r_5=>
   some r_5
  else
   (gI (IntKind.i64.wrap (most+1)) c0 r_3.2.1 r_3.2.2).bind fun r_6=>
   some r_6
instance Qs{most:Int}{c0:fP}{c1:Int}{c2:Int}:gW (pQ most c0 c1 c2) fun rr=>gN Tryz.prog 76 [.ptr 0 0,.d (iD most)] [(0,.obj 119 [.d (gE 1 (kD .u8) c0),.d (iD c1),.d (iD c2)])] 1 fun xx ss=>xx=.d (iD rr.1)/\ss=[(0,.obj 119 [.d (gE 1 (kD .u8) c0),.d (iD rr.2.1),.d (iD rr.2.2)])]:=⟨@fun rr h=>by
 delta pQ at h;refine Zr.jO (gC ?_);delta XZ;refine g_ ?_;refine lM [(0,0)] [] h fun r hr h=>?_
 refine it h (fun hc h=>?_) fun hc h=>?_
 ·refine lM [(0,0)] [] h fun r_1 hr_1 h=>?_
  refine lM [(0,0)] [] h fun r_2 hr_2 h=>?_
  obtain⟨hp,h⟩:=rf h;repeat(refine tW gB ?_;try simp(maxSteps:=1000000) (disch:=omega)only[go_sem,<-List.map_take,<-List.map_drop,FG,Nat.reduceAdd,Nat.reduceSub,Nat.reduceLeDiff,Nat.reduceEqDiff,Nat.reduceLT,Int.reduceToNat,reduceIte,reduceCtorEq,Dw (l:=[iD (-1),iD most,iD (IntKind.i64.wrap (most+1)),iD r_1.1]) (f:=iD) (xs:=[(-1),most,(IntKind.i64.wrap (most+1)),r_1.1]) rfl (n:=4) rfl])
  cases h;exact⟨[12],by simp,jF,jF⟩
 refine lM [(0,0)] [] h fun r_3 hr_3 h=>?_
 refine it h (fun hc h=>?_) fun hc h=>?_
 ·refine rC h fun r_4 hr_4 h=>?_
  refine lM [(0,0)] [] h fun r_5 hr_5 h=>?_
  exact mm
 refine lM [(0,0)] [] h fun r_6 hr_6 h=>?_
 exact mm⟩
def Sj:gH:=
 (.seq (.gD (sq 2 [.alloc 2 27 [.sl 0 (some true) []],.mv (.const (.slice none 0 0))])) (.seq (.gD (sq 7 [.lQ 7 2 1 [(i0 2),(i0 0),(i0 1),(i0 0)],.build [.sl 0 (some true) []] [(0,1,(t0 7))]]++sq 4 [.alloc 4 27 [.sl 0 (some true) []]]++s0 (sr 1 4 8))) (.seq (.seq (.gD (sq 9 [mv 0,.iw 75 [(t0 9),(i0 4)]])) (.cond (t0 10) (.gD (sq 11 [mv 0,cf 157 [11]]++s0 (sr 1 4 12))) .skip)) (.seq (.gD (sq 13 [.lQ 13 2 1 []]++sq 5 [mv 13])) (.seq (.seq (.gD (sq 6 [mi 0])) (.block 0 (.loop (.seq (.seq (.gD (sq 14 [mv 6,fa 0 4,ld 15,ln 16,bn .lss 14 17])) (.cond (t0 18) .skip (.exit 0))) (.seq (.block 1 (.seq (.gD (sq 21 [fa 0 4,ld 21,mv 6,ix 1 22 23,ld 24,bi .eql 25 2,mv 26]++sg 27 true 28 [mv 0,.iw 75 [(t0 28),(i0 5)],nt 29]++sq 31 [pa 27 30])) (.cond (t0 31) (.gD (sq 32 [mv 5,mv 6,.lQ 34 2 1 [(t0 33)],ap 35 2 1 8 32 34]++sq 5 [mv 35])) .skip))) (.gD (sq 19 [mv 6,bi .add 19 1]++sq 6 [mv 20]))))))) (.seq (.seq (.gD (sq 36 [mv 0,.iw 75 [(t0 36),(i0 15)]])) (.cond (t0 37) (.gD (sq 38 [mv 5,mv 0,.iw 76 [(t0 39),(i0 4)],.lQ 41 2 1 [(t0 40)],ap 42 2 1 8 38 41]++sq 5 [mv 42])) .skip)) (.seq (.gD (sq 43 [la 1 4,mv 5]++s0 (sr 1 2 43)++sq 3 [mv 44])) .ret)))))))
theorem V5:jT Tryz.prog 100 Sj 45 [.cell 2 1 true,.tmp 3]:=mf Tryz.func100 Tryz.ntmps100
def qA(c0:fP)(r_1:fS):gi->Option (gi⊕ga)
 |(ac,f,c,c_1)=>
  if(decide (f<(r_1.1.length:Int)))=true then
   if 0<=f/\f<(r_1.1.length:Int)then
    if((r_1.1.getD f.toNat default)==2)=true then
     (gR 5 c0 c c_1).bind fun r_2=>
     if r_2.1=true then
      some (.inl (ac,(IntKind.i64.wrap (f+1)),r_2.2.1,r_2.2.2))
     else
      if(ac.length+1)*8<=140737488355328 then
       some (.inl ((ac++[f]),(IntKind.i64.wrap (f+1)),r_2.2.1,r_2.2.2))
      else none
    else
     some (.inl (ac,(IntKind.i64.wrap (f+1)),c,c_1))
   else none
  else
   Option.map Sum.inr (
    (gR 15 c0 c c_1).bind fun r_3=>
    if r_3.1=true then
     (pQ 4 c0 r_3.2.1 r_3.2.2).bind fun r_4=>
     if(ac.length+1)*8<=140737488355328 then
      some (r_1.1,(ac++[r_4.1]),r_4.2.1,r_4.2.2)
     else none
    else
     some (r_1.1,ac,r_3.2.1,r_3.2.2))
def qB(c0:fP):gi->Option (gi⊕ga)
 |(ac_1,f_1,c_2,c_3)=>
  if(decide (f_1<4))=true then
   if 0<=f_1/\f_1<4 then
    if((([2,0,1,0]:fP).getD f_1.toNat default)==2)=true then
     (gR 5 c0 c_2 c_3).bind fun r_5=>
     if r_5.1=true then
      some (.inl (ac_1,(IntKind.i64.wrap (f_1+1)),r_5.2.1,r_5.2.2))
     else
      if(ac_1.length+1)*8<=140737488355328 then
       some (.inl ((ac_1++[f_1]),(IntKind.i64.wrap (f_1+1)),r_5.2.1,r_5.2.2))
      else none
    else
     some (.inl (ac_1,(IntKind.i64.wrap (f_1+1)),c_2,c_3))
   else none
  else
   Option.map Sum.inr (
    (gR 15 c0 c_2 c_3).bind fun r_6=>
    if r_6.1=true then
     (pQ 4 c0 r_6.2.1 r_6.2.2).bind fun r_7=>
     if(ac_1.length+1)*8<=140737488355328 then
      some ([2,0,1,0],(ac_1++[r_7.1]),r_7.2.1,r_7.2.2)
     else none
    else
     some ([2,0,1,0],ac_1,r_6.2.1,r_6.2.2))
def oA(c0:fP)(c1:Int)(c2:Int):Option ga:=
 (gR 4 c0 c1 c2).bind fun r=>
 if r.1=true then
  (oR c0 r.2.1 r.2.2).bind fun r_1=>
  gK (qA c0 r_1) ([],0,r_1.2.1,r_1.2.2)
 else
  gK (qB c0) ([],0,r.2.1,r.2.2)
instance JV{c0:fP}{c1:Int}{c2:Int}:gW (oA c0 c1 c2) fun rr=>gN Tryz.prog 100 [.ptr 0 0] [(0,.obj 119 [.d (gE 1 (kD .u8) c0),.d (iD c1),.d (iD c2)])] 1 fun xx ss=>xx=.nk [.d (.agg [gE 1 iD rr.1]),.d (gE 1 iD rr.2.1)]/\ss=[(0,.obj 119 [.d (gE 1 (kD .u8) c0),.d (iD rr.2.2.1),.d (iD rr.2.2.2)])]:=⟨@fun rr h=>by
 delta oA at h;refine V5.jO (gC ?_);delta Sj;refine g_ ?_;refine lM [(0,0)] [] h fun r hr h=>?_
 refine it h (fun hc h=>?_) fun hc h=>?_
 ·refine lM [(0,0)] [] h fun r_1 hr_1 h=>?_
  refine jk h [5,6,14,15,16,17,18,19,20,21,22,23,24,25,26,27,28,29,30,31,32,33,34,35] (fun pp=>[(5,.own 1 13 (List.map iD pp.1)),(6,.d (iD pp.2.1))]) (fun pp=>[(0,.obj 119 [.d (gE 1 (kD .u8) c0),.d (iD pp.2.2.1),.d (iD pp.2.2.2)]),(2,.obj 27 [.d (.sl 0 (some true) [])]),(4,.obj 27 [.d (gE 1 iD r_1.1)]),(7,.tok 2 1 4),(13,.tok 2 1 pp.1.length)]) ?_;rintro⟨ac,f,c,c_1⟩ t1 h hb1;unfold qA at h;try dsimp only at h
  refine gC (g_ ?_);refine it h (fun hc h=>?_) fun hc h=>?_
  ·refine iU h fun hp h=>?_
   refine iT h fun hc h=>?_
   refine lM [(0,0)] [] h fun r_2 hr_2 h=>?_
   refine iF h fun hc h=>?_
   refine iU h fun hp h=>?_
   cases h;refine⟨_,rfl,?_⟩;refine(gT.drop 34 gB).trans ?_;exact wk
  replace h:=gY h hb1;refine lM [(0,0)] [] h fun r_3 hr_3 h=>?_
  refine it h (fun hc h=>?_) fun hc h=>?_
  ·refine lM [(0,0)] [] h fun r_4 hr_4 h=>?_
   refine iU h fun hp h=>?_
   cases h;exact⟨[2,4,7,13,41],by simp,jF,jF⟩
  cases h;exact⟨[2,4,7,13],by simp,jF,jF⟩
 refine jk h [5,6,14,15,16,17,18,19,20,21,22,23,24,25,26,27,28,29,30,31,32,33,34,35] (fun pp=>[(5,.own 1 13 (List.map iD pp.1)),(6,.d (iD pp.2.1))]) (fun pp=>[(0,.obj 119 [.d (gE 1 (kD .u8) c0),.d (iD pp.2.2.1),.d (iD pp.2.2.2)]),(2,.obj 27 [.d (.sl 0 (some true) [])]),(4,.obj 27 [.own 1 7 (List.map iD [2,0,1,0])]),(7,.tok 2 1 4),(13,.tok 2 1 pp.1.length)]) ?_;rintro⟨ac_1,f_1,c_2,c_3⟩ t1 h hb1;unfold qB at h;try dsimp only at h
 refine gC (g_ ?_);refine it h (fun hc h=>?_) fun hc h=>?_
 ·obtain⟨hp,h⟩:=rf h;repeat(refine tW gB ?_;try simp(maxSteps:=1000000) (disch:=omega)only[go_sem,<-List.map_take,<-List.map_drop,FG,Nat.reduceAdd,Nat.reduceSub,Nat.reduceLeDiff,Nat.reduceEqDiff,Nat.reduceLT,Int.reduceToNat,reduceIte,reduceCtorEq,Dw (l:=[iD 2,iD 0,iD 1,iD 0]) (f:=iD) (xs:=[2,0,1,0]) rfl (n:=4) rfl])
  refine iT h fun hc h=>?_
  refine lM [(0,0)] [] h fun r_5 hr_5 h=>?_
  refine iF h fun hc h=>?_
  refine iU h fun hp h=>?_
  cases h;refine⟨_,rfl,?_⟩;refine(gT.drop 34 gB).trans ?_;exact wk
 replace h:=gY h hb1;refine lM [(0,0)] [] h fun r_6 hr_6 h=>?_
 refine it h (fun hc h=>?_) fun hc h=>?_
 ·refine lM [(0,0)] [] h fun r_7 hr_7 h=>?_
  refine iU h fun hp h=>?_
  cases h;exact⟨[2,4,7,13,41],by simp,jF,jF⟩
 cases h;exact⟨[2,4,7,13],by simp,jF,jF⟩⟩
def Ts:gH:=
 (.seq (.gD (sq 6 [mi 0])) (.seq (.gD (sq 7 [mv 1,mv 0,mv 2,mv 1,bn .sub 9 10,bi .add 11 1,cf 77 [8,12],bn .add 7 13]++sq 6 [mv 14])) .ret))
theorem Xa:jT Tryz.prog 194 Ts 15 [.tmp 6]:=mf Tryz.func194 Tryz.ntmps194
def mL(lo:Int)(hi:Int)(c0:fP)(c1:Int)(c2:Int):Option (Int×Int×Int):=
 (gI (IntKind.i64.wrap ((IntKind.i64.wrap (hi-lo))+1)) c0 c1 c2).bind fun r=>
 some ((IntKind.i64.wrap (lo+r.1)),r.2.1,r.2.2)
instance PJ{lo:Int}{hi:Int}{c0:fP}{c1:Int}{c2:Int}:gW (mL lo hi c0 c1 c2) fun rr=>gN Tryz.prog 194 [.ptr 0 0,.d (iD lo),.d (iD hi)] [(0,.obj 119 [.d (gE 1 (kD .u8) c0),.d (iD c1),.d (iD c2)])] 1 fun xx ss=>xx=.d (iD rr.1)/\ss=[(0,.obj 119 [.d (gE 1 (kD .u8) c0),.d (iD rr.2.1),.d (iD rr.2.2)])]:=⟨@fun rr h=>by
 delta mL at h;refine Xa.jO (gC ?_);delta Ts;refine g_ ?_;refine lM [(0,0)] [] h fun r hr h=>?_
 exact mm⟩
def Sl:gH:=
 (.seq (.gD (sq 5 [bo 5 27 1]++sq 8 [.mv (.const (.slice none 0 0))])) (.seq (.seq (.gD (sq 13 [mv 2,bi .leq 13 1,mv 14]++sg 15 false 16 [mv 0,.iw 75 [(t0 16),(i0 4)]]++sq 18 [po 15 17])) (.cond (t0 18) (.seq (.seq (.gD (sq 19 [mv 3,bi .gtr 19 0,mv 20]++sg 21 true 22 [mv 0,.iw 75 [(t0 22),(i0 2)]]++sq 24 [pa 21 23])) (.cond (t0 24) (.seq (.gD (sq 25 [mv 0,mv 3,cf 77 [25,26],.bin .sub (i0 (-1)) (t0 27),.lQ 29 2 1 [(t0 28)]]++sq 8 [mv 29])) .ret) .skip)) (.seq (.seq (.gD (sq 30 [fa 0 5,ld 30,ln 31,bi .sub 32 1]++sq 9 [mv 33])) (.block 0 (.loop (.seq (.seq (.gD (sq 34 [mv 9,bi .geq 34 0])) (.cond (t0 35) .skip (.exit 0))) (.seq (.block 1 (.seq (.gD (sq 38 [fa 0 5,ld 38,mv 9,ix 1 39 40,ld 41,bi .eql 42 0])) (.cond (t0 43) (.seq (.gD (sq 44 [mv 9,.lQ 45 2 1 [(t0 44)]]++sq 8 [mv 45])) .ret) .skip))) (.gD (sq 36 [mv 9,bi .sub 36 1]++sq 9 [mv 37]))))))) (.seq (.gD (sq 46 [.lQ 46 2 1 [(i0 (-1))]]++sq 8 [mv 46])) .ret))) .skip)) (.seq (.gD (sq 47 [mv 0,fa 0 5,ld 48,ln 49,cf 77 [47,50]]++sq 10 [mv 51])) (.seq (.gD (sq 52 [mv 10,.lQ 53 2 1 [(t0 52)]]++sq 11 [mv 53])) (.seq (.seq (.gD (sq 54 [fa 0 5,ld 54,mv 10,ix 1 55 56,ld 57]++sq 12 [mv 58])) (.block 2 (.loop (.seq (.seq (.gD (sq 59 [mv 12,bi .gtr 59 0])) (.cond (t0 60) .skip (.exit 2))) (.seq (.block 3 (.gD (sq 63 [mv 11,mv 0,la 1 5,mv 2,bi .sub 66 1,mv 3,cf 102 [64,65,67,68],ap 70 2 1 8 63 69]++sq 11 [mv 70]))) (.gD (sq 61 [mv 12,bi .sub 61 1]++sq 12 [mv 62]))))))) (.seq (.gD (sq 71 [mv 11]++sq 8 [mv 71])) .ret))))))
theorem V7:jT Tryz.prog 102 Sl 72 [.tmp 8]:=mf Tryz.func102 Tryz.ntmps102
def uL(sig:fP)(r:gw):Int->Option gz
 |f=>
  if(decide (0<=f))=true then
   if 0<=f/\f<(sig.length:Int)then
    if((sig.getD f.toNat default)==0)=true then
     Option.map Sum.inr (
      some ([f],r.2.1,r.2.2))
    else
     some (.inl (IntKind.i64.wrap (f-1)))
   else none
  else
   Option.map Sum.inr (
    some ([(-1)],r.2.1,r.2.2))
def uM(sig:fP)(c1:Int)(c2:Int):Int->Option gz
 |f_1=>
  if(decide (0<=f_1))=true then
   if 0<=f_1/\f_1<(sig.length:Int)then
    if((sig.getD f_1.toNat default)==0)=true then
     Option.map Sum.inr (
      some ([f_1],c1,c2))
    else
     some (.inl (IntKind.i64.wrap (f_1-1)))
   else none
  else
   Option.map Sum.inr (
    some ([(-1)],c1,c2))
def uN(sig:fP)(r_3:gw):Int->Option gz
 |f_2=>
  if(decide (0<=f_2))=true then
   if 0<=f_2/\f_2<(sig.length:Int)then
    if((sig.getD f_2.toNat default)==0)=true then
     Option.map Sum.inr (
      some ([f_2],r_3.2.1,r_3.2.2))
    else
     some (.inl (IntKind.i64.wrap (f_2-1)))
   else none
  else
   Option.map Sum.inr (
    some ([(-1)],r_3.2.1,r_3.2.2))
def uO(sig:fP)(r_2:gw):Int->Option gz
 |f_3=>
  if(decide (0<=f_3))=true then
   if 0<=f_3/\f_3<(sig.length:Int)then
    if((sig.getD f_3.toNat default)==0)=true then
     Option.map Sum.inr (
      some ([f_3],r_2.2.1,r_2.2.2))
    else
     some (.inl (IntKind.i64.wrap (f_3-1)))
   else none
  else
   Option.map Sum.inr (
    some ([(-1)],r_2.2.1,r_2.2.2))
def qz(rec:fP->Int->Int->fP->Int->Int->Option fS)(sig:fP)(depth:Int)(vars:Int)(c0:fP):gi->Option (gi⊕fS)
 |(out,k,c,c_1)=>
  if(decide (0<k))=true then
   (rec sig (IntKind.i64.wrap (depth-1)) vars c0 c c_1).bind fun r_6=>
   if(out.length+r_6.1.length)*8<=140737488355328 then
    some (.inl ((out++r_6.1),(IntKind.i64.wrap (k-1)),r_6.2.1,r_6.2.2))
   else none
  else
   Option.map Sum.inr (
    some (out,c,c_1))
def kV:Nat->fP->Int->Int->fP->Int->Int->Option fS
 |0,_,_,_,_,_,_=>none
 |fu+1,sig,depth,vars,c0,c1,c2=>
  if(decide (depth<=1))=true then
   if(decide (0<vars))=true then
    (gR 2 c0 c1 c2).bind fun r=>
    if r.1=true then
     (gI vars c0 r.2.1 r.2.2).bind fun r_1=>
     some ([(IntKind.i64.wrap ((-1)-r_1.1))],r_1.2.1,r_1.2.2)
    else
     gK (uL sig r) (IntKind.i64.wrap ((sig.length:Int)-1))
   else
    gK (uM sig c1 c2) (IntKind.i64.wrap ((sig.length:Int)-1))
  else
   (gR 4 c0 c1 c2).bind fun r_2=>
   if r_2.1=true then
    if(decide (0<vars))=true then
     (gR 2 c0 r_2.2.1 r_2.2.2).bind fun r_3=>
     if r_3.1=true then
      (gI vars c0 r_3.2.1 r_3.2.2).bind fun r_4=>
      some ([(IntKind.i64.wrap ((-1)-r_4.1))],r_4.2.1,r_4.2.2)
     else
      gK (uN sig r_3) (IntKind.i64.wrap ((sig.length:Int)-1))
    else
     gK (uO sig r_2) (IntKind.i64.wrap ((sig.length:Int)-1))
   else
    (gI (sig.length:Int) c0 r_2.2.1 r_2.2.2).bind fun r_5=>
    if 0<=r_5.1/\r_5.1<(sig.length:Int)then
     gK (qz (kV fu) sig depth vars c0) ([r_5.1],(sig.getD r_5.1.toNat default),r_5.2.1,r_5.2.2)
    else none
def iX(sig:fP)(depth:Int)(vars:Int)(c0:fP)(c1:Int)(c2:Int):Option fS:=Ba fun fu=>kV fu sig depth vars c0 c1 c2
theorem wJ:∀{fu:Nat}{sig:fP}{depth:Int}{vars:Int}{c0:fP}{c1:Int}{c2:Int}{rr:fS}(h:kV fu sig depth vars c0 c1 c2=some rr),gN Tryz.prog 102 [.ptr 0 0,.d (.agg [gE 1 iD sig]),.d (iD depth),.d (iD vars)] [(0,.obj 119 [.d (gE 1 (kD .u8) c0),.d (iD c1),.d (iD c2)])] 1 fun xx ss=>xx=.d (gE 1 iD rr.1)/\ss=[(0,.obj 119 [.d (gE 1 (kD .u8) c0),.d (iD rr.2.1),.d (iD rr.2.2)])]
 |0,_,_,_,_,_,_,_,h=>by cases h
 |fu+1,sig,depth,vars,c0,c1,c2,rr,h=>by
  have ih:∀{sig:fP}{depth:Int}{vars:Int}{c0:fP}{c1:Int}{c2:Int},gW (kV fu sig depth vars c0 c1 c2) fun rr=>gN Tryz.prog 102 [.ptr 0 0,.d (.agg [gE 1 iD sig]),.d (iD depth),.d (iD vars)] [(0,.obj 119 [.d (gE 1 (kD .u8) c0),.d (iD c1),.d (iD c2)])] 1 fun xx ss=>xx=.d (gE 1 iD rr.1)/\ss=[(0,.obj 119 [.d (gE 1 (kD .u8) c0),.d (iD rr.2.1),.d (iD rr.2.2)])]:=⟨fun h=>wJ h⟩
  unfold kV at h;refine V7.jO (gC ?_);delta Sl;refine g_ ?_;refine it h (fun hc h=>?_) fun hc h=>?_
  ·refine it h (fun hc h=>?_) fun hc h=>?_
   ·refine lM [(0,0)] [] h fun r hr h=>?_
    refine it h (fun hc h=>?_) fun hc h=>?_
    ·refine lM [(0,0)] [] h fun r_1 hr_1 h=>?_
     cases h;exact⟨[5,29],by simp,jF,jF⟩
    refine jk h [8,9,34,35,36,37,38,39,40,41,42,43,44,45] (fun pp=>[(9,.d (iD pp))]) (fun pp=>[(0,.obj 119 [.d (gE 1 (kD .u8) c0),.d (iD r.2.1),.d (iD r.2.2)]),(5,.obj 27 [.d (gE 1 iD sig)])]) ?_;rintro f t1 h hb1;unfold uL at h;try dsimp only at h
    refine gC (g_ ?_);refine it h (fun hc h=>?_) fun hc h=>?_
    ·refine iU h fun hp h=>?_
     refine iT h fun hc h=>?_
     replace h:=gY h hb1;cases h;exact⟨[5,45],by simp,jF,jF⟩
    replace h:=gY h hb1;cases h;exact⟨[5,46],by simp,jF,jF⟩
   refine jk h [8,9,34,35,36,37,38,39,40,41,42,43,44,45] (fun pp=>[(9,.d (iD pp))]) (fun pp=>[(0,.obj 119 [.d (gE 1 (kD .u8) c0),.d (iD c1),.d (iD c2)]),(5,.obj 27 [.d (gE 1 iD sig)])]) ?_;rintro f_1 t1 h hb1;unfold uM at h;try dsimp only at h
   refine gC (g_ ?_);refine it h (fun hc h=>?_) fun hc h=>?_
   ·refine iU h fun hp h=>?_
    refine iT h fun hc h=>?_
    replace h:=gY h hb1;cases h;exact⟨[5,45],by simp,jF,jF⟩
   replace h:=gY h hb1;cases h;exact⟨[5,46],by simp,jF,jF⟩
  refine lM [(0,0)] [] h fun r_2 hr_2 h=>?_
  refine it h (fun hc h=>?_) fun hc h=>?_
  ·refine it h (fun hc h=>?_) fun hc h=>?_
   ·refine lM [(0,0)] [] h fun r_3 hr_3 h=>?_
    refine it h (fun hc h=>?_) fun hc h=>?_
    ·refine lM [(0,0)] [] h fun r_4 hr_4 h=>?_
     cases h;exact⟨[5,29],by simp,jF,jF⟩
    refine jk h [8,9,34,35,36,37,38,39,40,41,42,43,44,45] (fun pp=>[(9,.d (iD pp))]) (fun pp=>[(0,.obj 119 [.d (gE 1 (kD .u8) c0),.d (iD r_3.2.1),.d (iD r_3.2.2)]),(5,.obj 27 [.d (gE 1 iD sig)])]) ?_;rintro f_2 t1 h hb1;unfold uN at h;try dsimp only at h
    refine gC (g_ ?_);refine it h (fun hc h=>?_) fun hc h=>?_
    ·refine iU h fun hp h=>?_
     refine iT h fun hc h=>?_
     replace h:=gY h hb1;cases h;exact⟨[5,45],by simp,jF,jF⟩
    replace h:=gY h hb1;cases h;exact⟨[5,46],by simp,jF,jF⟩
   refine jk h [8,9,34,35,36,37,38,39,40,41,42,43,44,45] (fun pp=>[(9,.d (iD pp))]) (fun pp=>[(0,.obj 119 [.d (gE 1 (kD .u8) c0),.d (iD r_2.2.1),.d (iD r_2.2.2)]),(5,.obj 27 [.d (gE 1 iD sig)])]) ?_;rintro f_3 t1 h hb1;unfold uO at h;try dsimp only at h
   refine gC (g_ ?_);refine it h (fun hc h=>?_) fun hc h=>?_
   ·refine iU h fun hp h=>?_
    refine iT h fun hc h=>?_
    replace h:=gY h hb1;cases h;exact⟨[5,45],by simp,jF,jF⟩
   replace h:=gY h hb1;cases h;exact⟨[5,46],by simp,jF,jF⟩
  refine lM [(0,0)] [] h fun r_5 hr_5 h=>?_
  refine iU h fun hp h=>?_
  refine jk h [11,12,59,60,61,62,63,64,65,66,67,68,69,70] (fun pp=>[(11,.own 1 53 (List.map iD pp.1)),(12,.d (iD pp.2.1))]) (fun pp=>[(0,.obj 119 [.d (gE 1 (kD .u8) c0),.d (iD pp.2.2.1),.d (iD pp.2.2.2)]),(5,.obj 27 [.d (gE 1 iD sig)]),(53,.tok 2 1 pp.1.length)]) ?_;rintro⟨out,k,c,c_1⟩ t1 h hb1;unfold qz at h;try dsimp only at h
  refine gC (g_ ?_);refine it h (fun hc h=>?_) fun hc h=>?_
  ·refine lM [(0,0)] [] h fun r_6 hr_6 h=>?_
   exact mm
  replace h:=gY h hb1;cases h;exact⟨[5,53],by simp,jF,jF⟩
instance Ga{sig:fP}{depth:Int}{vars:Int}{c0:fP}{c1:Int}{c2:Int}:gW (iX sig depth vars c0 c1 c2) fun rr=>gN Tryz.prog 102 [.ptr 0 0,.d (.agg [gE 1 iD sig]),.d (iD depth),.d (iD vars)] [(0,.obj 119 [.d (gE 1 (kD .u8) c0),.d (iD c1),.d (iD c2)])] 1 fun xx ss=>xx=.d (gE 1 iD rr.1)/\ss=[(0,.obj 119 [.d (gE 1 (kD .u8) c0),.d (iD rr.2.1),.d (iD rr.2.2)])]:=⟨fun h=>wJ (pq h).choose_spec⟩
def rS:gH:=
 (.seq (.gD (sq 5 [bo 5 27 1]++sq 8 [.mv (.const (.slice none 0 0))])) (.seq (.seq (.gD (sq 13 [mv 2,bi .leq 13 1,mv 14]++sg 15 false 16 [mv 0,.iw 75 [(t0 16),(i0 4)]]++sq 18 [po 15 17])) (.cond (t0 18) (.seq (.seq (.gD (sq 19 [mv 3,bi .gtr 19 0,mv 20]++sg 21 true 22 [mv 0,.iw 75 [(t0 22),(i0 2)]]++sq 24 [pa 21 23])) (.cond (t0 24) (.seq (.gD (sq 25 [mv 0,mv 3,cf 77 [25,26],.bin .sub (i0 (-1)) (t0 27),.zX 29 2 1 [(t0 28)]]++sq 8 [mv 29])) .ret) .skip)) (.seq (.seq (.gD (sq 30 [fa 0 5,ld 30,ln 31,bi .sub 32 1]++sq 9 [mv 33])) (.block 0 (.loop (.seq (.seq (.gD (sq 34 [mv 9,bi .geq 34 0])) (.cond (t0 35) .skip (.exit 0))) (.seq (.block 1 (.seq (.gD (sq 38 [fa 0 5,ld 38,mv 9,ix 1 39 40,ld 41,bi .eql 42 0])) (.cond (t0 43) (.seq (.gD (sq 44 [mv 9,.zX 45 2 1 [(t0 44)]]++sq 8 [mv 45])) .ret) .skip))) (.gD (sq 36 [mv 9,bi .sub 36 1]++sq 9 [mv 37]))))))) (.seq (.gD (sq 46 [.zX 46 2 1 [(i0 (-1))]]++sq 8 [mv 46])) .ret))) .skip)) (.seq (.gD (sq 47 [mv 0,fa 0 5,ld 48,ln 49,cf 77 [47,50]]++sq 10 [mv 51])) (.seq (.gD (sq 52 [mv 10,.zX 53 2 1 [(t0 52)]]++sq 11 [mv 53])) (.seq (.seq (.gD (sq 54 [fa 0 5,ld 54,mv 10,ix 1 55 56,ld 57]++sq 12 [mv 58])) (.block 2 (.loop (.seq (.seq (.gD (sq 59 [mv 12,bi .gtr 59 0])) (.cond (t0 60) .skip (.exit 2))) (.seq (.block 3 (.gD (sq 63 [mv 11,mv 0,la 1 5,mv 2,bi .sub 66 1,mv 3,cf 102 [64,65,67,68],ap 70 2 1 8 63 69]++sq 11 [mv 70]))) (.gD (sq 61 [mv 12,bi .sub 61 1]++sq 12 [mv 62]))))))) (.seq (.gD (sq 71 [mv 11]++sq 8 [mv 71])) .ret))))))
theorem wY:jT Tryz.prog 102 rS 72 [.tmp 8]:=mf Tryz.func102 Tryz.ntmps102
def sR(sig:fP)(r:gw):Int->Option gz
 |f=>
  if(decide (0<=f))=true then
   if 0<=f/\f<(sig.length:Int)then
    if((sig.getD f.toNat default)==0)=true then
     Option.map Sum.inr (
      some ([f],r.2.1,r.2.2))
    else
     some (.inl (IntKind.i64.wrap (f-1)))
   else none
  else
   Option.map Sum.inr (
    some ([(-1)],r.2.1,r.2.2))
def sS(sig:fP)(c1:Int)(c2:Int):Int->Option gz
 |f_1=>
  if(decide (0<=f_1))=true then
   if 0<=f_1/\f_1<(sig.length:Int)then
    if((sig.getD f_1.toNat default)==0)=true then
     Option.map Sum.inr (
      some ([f_1],c1,c2))
    else
     some (.inl (IntKind.i64.wrap (f_1-1)))
   else none
  else
   Option.map Sum.inr (
    some ([(-1)],c1,c2))
def sU(sig:fP)(r_3:gw):Int->Option gz
 |f_2=>
  if(decide (0<=f_2))=true then
   if 0<=f_2/\f_2<(sig.length:Int)then
    if((sig.getD f_2.toNat default)==0)=true then
     Option.map Sum.inr (
      some ([f_2],r_3.2.1,r_3.2.2))
    else
     some (.inl (IntKind.i64.wrap (f_2-1)))
   else none
  else
   Option.map Sum.inr (
    some ([(-1)],r_3.2.1,r_3.2.2))
def sV(sig:fP)(r_2:gw):Int->Option gz
 |f_3=>
  if(decide (0<=f_3))=true then
   if 0<=f_3/\f_3<(sig.length:Int)then
    if((sig.getD f_3.toNat default)==0)=true then
     Option.map Sum.inr (
      some ([f_3],r_2.2.1,r_2.2.2))
    else
     some (.inl (IntKind.i64.wrap (f_3-1)))
   else none
  else
   Option.map Sum.inr (
    some ([(-1)],r_2.2.1,r_2.2.2))
def oS(sig:fP)(depth:Int)(vars:Int)(c0:fP):gy->Option (gy⊕fS)
 |(k,c,c_1,g53)=>
  if(decide (0<k))=true then
   (iX sig (IntKind.i64.wrap (depth-1)) vars c0 c c_1).bind fun r_6=>
   if(g53.length+r_6.1.length)*8<=140737488355328 then
    some (.inl ((IntKind.i64.wrap (k-1)),r_6.2.1,r_6.2.2,(g53++r_6.1)))
   else none
  else
   Option.map Sum.inr (
    some (g53,c,c_1))
def kE:Nat->fP->Int->Int->fP->Int->Int->Option fS
 |0,_,_,_,_,_,_=>none
 |fu+1,sig,depth,vars,c0,c1,c2=>
  if(decide (depth<=1))=true then
   if(decide (0<vars))=true then
    (gR 2 c0 c1 c2).bind fun r=>
    if r.1=true then
     (gI vars c0 r.2.1 r.2.2).bind fun r_1=>
     some ([(IntKind.i64.wrap ((-1)-r_1.1))],r_1.2.1,r_1.2.2)
    else
     gK (sR sig r) (IntKind.i64.wrap ((sig.length:Int)-1))
   else
    gK (sS sig c1 c2) (IntKind.i64.wrap ((sig.length:Int)-1))
  else
   (gR 4 c0 c1 c2).bind fun r_2=>
   if r_2.1=true then
    if(decide (0<vars))=true then
     (gR 2 c0 r_2.2.1 r_2.2.2).bind fun r_3=>
     if r_3.1=true then
      (gI vars c0 r_3.2.1 r_3.2.2).bind fun r_4=>
      some ([(IntKind.i64.wrap ((-1)-r_4.1))],r_4.2.1,r_4.2.2)
     else
      gK (sU sig r_3) (IntKind.i64.wrap ((sig.length:Int)-1))
    else
     gK (sV sig r_2) (IntKind.i64.wrap ((sig.length:Int)-1))
   else
    (gI (sig.length:Int) c0 r_2.2.1 r_2.2.2).bind fun r_5=>
    if 0<=r_5.1/\r_5.1<(sig.length:Int)then
     gK (oS sig depth vars c0) ((sig.getD r_5.1.toNat default),r_5.2.1,r_5.2.2,[r_5.1])
    else none
def jS(sig:fP)(depth:Int)(vars:Int)(c0:fP)(c1:Int)(c2:Int):Option fS:=Ba fun fu=>kE fu sig depth vars c0 c1 c2
theorem uU:∀{fu:Nat}{sig:fP}{depth:Int}{vars:Int}{c0:fP}{c1:Int}{c2:Int}{rr:fS}(h:kE fu sig depth vars c0 c1 c2=some rr),gN Tryz.prog 102 [.ptr 0 0,.d (.agg [gE 1 iD sig]),.d (iD depth),.d (iD vars)] [(0,.obj 119 [.d (gE 1 (kD .u8) c0),.d (iD c1),.d (iD c2)])] 1 fun xx ss=>xx=.kG 1 900000 rr.1.length/\ss=[(0,.obj 119 [.d (gE 1 (kD .u8) c0),.d (iD rr.2.1),.d (iD rr.2.2)]),(900000,.iM 2 1 rr.1.length (h_ iD rr.1))]
 |0,_,_,_,_,_,_,_,h=>by cases h
 |fu+1,sig,depth,vars,c0,c1,c2,rr,h=>by
  have ih:∀{sig:fP}{depth:Int}{vars:Int}{c0:fP}{c1:Int}{c2:Int},gW (kE fu sig depth vars c0 c1 c2) fun rr=>gN Tryz.prog 102 [.ptr 0 0,.d (.agg [gE 1 iD sig]),.d (iD depth),.d (iD vars)] [(0,.obj 119 [.d (gE 1 (kD .u8) c0),.d (iD c1),.d (iD c2)])] 1 fun xx ss=>xx=.kG 1 900000 rr.1.length/\ss=[(0,.obj 119 [.d (gE 1 (kD .u8) c0),.d (iD rr.2.1),.d (iD rr.2.2)]),(900000,.iM 2 1 rr.1.length (h_ iD rr.1))]:=⟨fun h=>uU h⟩
  unfold kE at h;refine wY.Ai (gC ?_);delta rS;refine g_ ?_;refine it h (fun hc h=>?_) fun hc h=>?_
  ·refine it h (fun hc h=>?_) fun hc h=>?_
   ·refine lM [(0,0)] [] h fun r hr h=>?_
    refine it h (fun hc h=>?_) fun hc h=>?_
    ·refine lM [(0,0)] [] h fun r_1 hr_1 h=>?_
     cases h;exact gX.trans ((gX.trans (gX.move 29 900000 (ob:=.iM 2 1 1 (h_ iD [(IntKind.i64.wrap ((-1)-r_1.1))])) gB gB gB rfl (by first|rfl|(simp;done)|(simp[sat,rX,sset,iL,wm,tq,Ob.kY,Ob.kill,mj];done))) (gX.nW [5] (by simp)))) (gX.told yS jF)
    refine jk h [8,9,34,35,36,37,38,39,40,41,42,43,44,45] (fun pp=>[(9,.d (iD pp))]) (fun pp=>[(0,.obj 119 [.d (gE 1 (kD .u8) c0),.d (iD r.2.1),.d (iD r.2.2)]),(5,.obj 27 [.d (gE 1 iD sig)])]) ?_;rintro f t1 h hb1;unfold sR at h;try dsimp only at h
    refine gC (g_ ?_);refine it h (fun hc h=>?_) fun hc h=>?_
    ·refine iU h fun hp h=>?_
     refine iT h fun hc h=>?_
     replace h:=gY h hb1;cases h;exact gX.trans ((gX.trans (gX.move 45 900000 (ob:=.iM 2 1 1 (h_ iD [f])) gB gB gB rfl (by first|rfl|(simp;done)|(simp[sat,rX,sset,iL,wm,tq,Ob.kY,Ob.kill,mj];done))) (gX.nW [5] (by simp)))) (gX.told yS jF)
    replace h:=gY h hb1;cases h;exact gX.trans ((gX.trans (gX.move 46 900000 (ob:=.iM 2 1 1 (h_ iD [(-1)])) gB gB gB rfl (by first|rfl|(simp;done)|(simp[sat,rX,sset,iL,wm,tq,Ob.kY,Ob.kill,mj];done))) (gX.nW [5] (by simp)))) (gX.told yS jF)
   refine jk h [8,9,34,35,36,37,38,39,40,41,42,43,44,45] (fun pp=>[(9,.d (iD pp))]) (fun pp=>[(0,.obj 119 [.d (gE 1 (kD .u8) c0),.d (iD c1),.d (iD c2)]),(5,.obj 27 [.d (gE 1 iD sig)])]) ?_;rintro f_1 t1 h hb1;unfold sS at h;try dsimp only at h
   refine gC (g_ ?_);refine it h (fun hc h=>?_) fun hc h=>?_
   ·refine iU h fun hp h=>?_
    refine iT h fun hc h=>?_
    replace h:=gY h hb1;cases h;exact gX.trans ((gX.trans (gX.move 45 900000 (ob:=.iM 2 1 1 (h_ iD [f_1])) gB gB gB rfl (by first|rfl|(simp;done)|(simp[sat,rX,sset,iL,wm,tq,Ob.kY,Ob.kill,mj];done))) (gX.nW [5] (by simp)))) (gX.told yS jF)
   replace h:=gY h hb1;cases h;exact gX.trans ((gX.trans (gX.move 46 900000 (ob:=.iM 2 1 1 (h_ iD [(-1)])) gB gB gB rfl (by first|rfl|(simp;done)|(simp[sat,rX,sset,iL,wm,tq,Ob.kY,Ob.kill,mj];done))) (gX.nW [5] (by simp)))) (gX.told yS jF)
  refine lM [(0,0)] [] h fun r_2 hr_2 h=>?_
  refine it h (fun hc h=>?_) fun hc h=>?_
  ·refine it h (fun hc h=>?_) fun hc h=>?_
   ·refine lM [(0,0)] [] h fun r_3 hr_3 h=>?_
    refine it h (fun hc h=>?_) fun hc h=>?_
    ·refine lM [(0,0)] [] h fun r_4 hr_4 h=>?_
     cases h;exact gX.trans ((gX.trans (gX.move 29 900000 (ob:=.iM 2 1 1 (h_ iD [(IntKind.i64.wrap ((-1)-r_4.1))])) gB gB gB rfl (by first|rfl|(simp;done)|(simp[sat,rX,sset,iL,wm,tq,Ob.kY,Ob.kill,mj];done))) (gX.nW [5] (by simp)))) (gX.told yS jF)
    refine jk h [8,9,34,35,36,37,38,39,40,41,42,43,44,45] (fun pp=>[(9,.d (iD pp))]) (fun pp=>[(0,.obj 119 [.d (gE 1 (kD .u8) c0),.d (iD r_3.2.1),.d (iD r_3.2.2)]),(5,.obj 27 [.d (gE 1 iD sig)])]) ?_;rintro f_2 t1 h hb1;unfold sU at h;try dsimp only at h
    refine gC (g_ ?_);refine it h (fun hc h=>?_) fun hc h=>?_
    ·refine iU h fun hp h=>?_
     refine iT h fun hc h=>?_
     replace h:=gY h hb1;cases h;exact gX.trans ((gX.trans (gX.move 45 900000 (ob:=.iM 2 1 1 (h_ iD [f_2])) gB gB gB rfl (by first|rfl|(simp;done)|(simp[sat,rX,sset,iL,wm,tq,Ob.kY,Ob.kill,mj];done))) (gX.nW [5] (by simp)))) (gX.told yS jF)
    replace h:=gY h hb1;cases h;exact gX.trans ((gX.trans (gX.move 46 900000 (ob:=.iM 2 1 1 (h_ iD [(-1)])) gB gB gB rfl (by first|rfl|(simp;done)|(simp[sat,rX,sset,iL,wm,tq,Ob.kY,Ob.kill,mj];done))) (gX.nW [5] (by simp)))) (gX.told yS jF)
   refine jk h [8,9,34,35,36,37,38,39,40,41,42,43,44,45] (fun pp=>[(9,.d (iD pp))]) (fun pp=>[(0,.obj 119 [.d (gE 1 (kD .u8) c0),.d (iD r_2.2.1),.d (iD r_2.2.2)]),(5,.obj 27 [.d (gE 1 iD sig)])]) ?_;rintro f_3 t1 h hb1;unfold sV at h;try dsimp only at h
   refine gC (g_ ?_);refine it h (fun hc h=>?_) fun hc h=>?_
   ·refine iU h fun hp h=>?_
    refine iT h fun hc h=>?_
    replace h:=gY h hb1;cases h;exact gX.trans ((gX.trans (gX.move 45 900000 (ob:=.iM 2 1 1 (h_ iD [f_3])) gB gB gB rfl (by first|rfl|(simp;done)|(simp[sat,rX,sset,iL,wm,tq,Ob.kY,Ob.kill,mj];done))) (gX.nW [5] (by simp)))) (gX.told yS jF)
   replace h:=gY h hb1;cases h;exact gX.trans ((gX.trans (gX.move 46 900000 (ob:=.iM 2 1 1 (h_ iD [(-1)])) gB gB gB rfl (by first|rfl|(simp;done)|(simp[sat,rX,sset,iL,wm,tq,Ob.kY,Ob.kill,mj];done))) (gX.nW [5] (by simp)))) (gX.told yS jF)
  refine lM [(0,0)] [] h fun r_5 hr_5 h=>?_
  refine iU h fun hp h=>?_
  refine jk h [11,12,59,60,61,62,63,64,65,66,67,68,69,70] (fun pp=>[(11,.kG 1 53 pp.2.2.2.length),(12,.d (iD pp.1))]) (fun pp=>[(0,.obj 119 [.d (gE 1 (kD .u8) c0),.d (iD pp.2.1),.d (iD pp.2.2.1)]),(5,.obj 27 [.d (gE 1 iD sig)]),(53,.iM 2 1 pp.2.2.2.length (h_ iD pp.2.2.2))]) ?_;rintro⟨k,c,c_1,g53⟩ t1 h hb1;unfold oS at h;try dsimp only at h
  refine gC (g_ ?_);refine it h (fun hc h=>?_) fun hc h=>?_
  ·refine lM [(0,0)] [] h fun r_6 hr_6 h=>?_
   exact mm
  replace h:=gY h hb1;cases h;exact gX.trans ((gX.trans (gX.move 53 900000 (ob:=.iM 2 1 g53.length (h_ iD g53)) gB gB gB rfl (by first|rfl|(simp;done)|(simp[sat,rX,sset,iL,wm,tq,Ob.kY,Ob.kill,mj];done))) (gX.nW [5] (by simp)))) (gX.told yS jF)
instance Ep{sig:fP}{depth:Int}{vars:Int}{c0:fP}{c1:Int}{c2:Int}:gW (jS sig depth vars c0 c1 c2) fun rr=>gN Tryz.prog 102 [.ptr 0 0,.d (.agg [gE 1 iD sig]),.d (iD depth),.d (iD vars)] [(0,.obj 119 [.d (gE 1 (kD .u8) c0),.d (iD c1),.d (iD c2)])] 1 fun xx ss=>xx=.kG 1 900000 rr.1.length/\ss=[(0,.obj 119 [.d (gE 1 (kD .u8) c0),.d (iD rr.2.1),.d (iD rr.2.2)]),(900000,.iM 2 1 rr.1.length (h_ iD rr.1))]:=⟨fun h=>uU (pq h).choose_spec⟩
def vb:gH:=
 (.seq (.gD (sq 3 [bo 3 27 1,.mv (.const (.slice none 0 0))])) (.seq (.seq (.gD (sq 6 [fa 0 3,ld 6,ln 7,bi .eql 8 0,mv 9]++sg 10 false 11 [la 1 3,cf 104 [11],nt 12]++sq 14 [po 10 13])) (.cond (t0 14) (.seq (.gD (sq 15 [mv 0,.iw 194 [(t0 15),(i0 (-2)),(i0 2)],.lQ 17 2 1 [(t0 16)]]++sq 4 [mv 17])) .ret) .skip)) (.seq (.draw (sq 18 [mv 0,la 1 3,mv 0,.iw 77 [(t0 20),(i0 4)],.bin .add (i0 1) (t0 21),.iw 102 [(t0 18),(t0 19),(t0 22),(i0 3)]]++sq 5 [mv 23]) [[],[],[],[2],[3],[0,1,4,3],[5,5,0,1,2,3,4,5]]) (.seq (.seq (.gD (sq 24 [mv 0,.iw 75 [(t0 24),(i0 12)]])) (.cond (t0 25) (.seq (.gD (sq 26 [mv 0,.iw 77 [(t0 26),(i0 4)]])) (.block 0 (.seq (.gD (sq 29 [bi .eql 27 0]++sq 28 [mv 29])) (.cond (t0 28) (.gD (sq 30 [mv 5,mv 0,.iw 194 [(t0 31),(i0 (-2)),(i0 3)],.lQ 33 2 1 [(t0 32)],ap 34 2 1 8 30 33]++sq 5 [mv 34])) (.seq (.gD (sq 36 [bi .eql 27 1]++sq 35 [mv 36])) (.cond (t0 35) (.gD (sq 37 [mv 5,mv 0,mv 5,ln 39,cf 77 [38,40],mv 0,.iw 194 [(t0 42),(i0 (-3)),(i0 4)],ix 1 37 41]++s0 (sr 1 44 43))) (.seq (.gD (sq 46 [bi .eql 27 2]++sq 45 [mv 46])) (.cond (t0 45) (.ghost (.gD (sq 47 [mv 5,.slc (t0 47) 1 (some (i0 1)) none none]++sq 5 [mv 48]))) (.seq (.gD (sq 50 [bi .eql 27 3]++sq 49 [mv 50])) (.cond (t0 49) (.gD (sq 51 [mv 5,mv 0,cf 130 [52],.lQ 54 2 1 [(t0 53)],ap 55 2 1 8 51 54]++sq 5 [mv 55])) .skip)))))))))) .skip)) (.seq (.gD (sq 56 [mv 5]++sq 4 [mv 56])) .ret)))))
theorem yQ:jT Tryz.prog 158 vb 57 [.tmp 4]:=mf Tryz.func158 Tryz.ntmps158
def jC(sig:fP)(c0:fP)(c1:Int)(c2:Int):Option fS:=
 if((sig.length:Int)==0)=true then
  (mL (-2) 2 c0 c1 c2).bind fun r=>
  some ([r.1],r.2.1,r.2.2)
 else
  (oz sig).bind fun r_1=>
  if r_1=true then
   (gI 4 c0 c1 c2).bind fun r_2=>
   (jS sig (IntKind.i64.wrap (1+r_2.1)) 3 c0 r_2.2.1 r_2.2.2).bind fun r_3=>
   (gR 12 c0 r_3.2.1 r_3.2.2).bind fun r_4=>
   if r_4.1=true then
    (gI 4 c0 r_4.2.1 r_4.2.2).bind fun r_5=>
    if(r_5.1==0)=true then
     (mL (-2) 3 c0 r_5.2.1 r_5.2.2).bind fun r_6=>
     if(r_3.1.length+1)*8<=140737488355328 then
      some ((r_3.1++[r_6.1]),r_6.2.1,r_6.2.2)
     else none
    else
     if(r_5.1==1)=true then
      (gI (r_3.1.length:Int) c0 r_5.2.1 r_5.2.2).bind fun r_7=>
      (mL (-3) 4 c0 r_7.2.1 r_7.2.2).bind fun r_8=>
      if 0<=r_7.1/\r_7.1<(r_3.1.length:Int)then
       some ((r_3.1.set r_7.1.toNat r_8.1),r_8.2.1,r_8.2.2)
      else none
     else
      if(r_5.1==2)=true then
       if 0<=1/\1<=(r_3.1.length:Int)then
        some ((r_3.1.drop 1),r_5.2.1,r_5.2.2)
       else none
      else
       if(r_5.1==3)=true then
        (qW c0 r_5.2.1 r_5.2.2).bind fun r_9=>
        if(r_3.1.length+1)*8<=140737488355328 then
         some ((r_3.1++[r_9.1]),r_9.2.1,r_9.2.2)
        else none
       else
        some (r_3.1,r_5.2.1,r_5.2.2)
   else
    some (r_3.1,r_4.2.1,r_4.2.2)
  else
   (mL (-2) 2 c0 c1 c2).bind fun r_10=>
   some ([r_10.1],r_10.2.1,r_10.2.2)
instance K0{sig:fP}{c0:fP}{c1:Int}{c2:Int}:gW (jC sig c0 c1 c2) fun rr=>gN Tryz.prog 158 [.ptr 0 0,.d (.agg [gE 1 iD sig])] [(0,.obj 119 [.d (gE 1 (kD .u8) c0),.d (iD c1),.d (iD c2)])] 1 fun xx ss=>xx=.d (gE 1 iD rr.1)/\ss=[(0,.obj 119 [.d (gE 1 (kD .u8) c0),.d (iD rr.2.1),.d (iD rr.2.2)])]:=⟨@fun rr h=>by
 delta jC at h;refine yQ.Ai (gC ?_);delta vb;refine g_ ?_;refine it h (fun hc h=>?_) fun hc h=>?_
 ·refine lM [(0,0)] [] h fun r hr h=>?_
  cases h;exact gX.trans ((gX.nW [3,17] (by simp))) (gX.told yS jF)
 refine rC h fun r_1 hr_1 h=>?_
 refine it h (fun hc h=>?_) fun hc h=>?_
 ·refine xN [(0,0)] [] h fun r_2 hr_2 h=>?_
  refine xN [(0,0)] [(900000,23)] h fun r_3 hr_3 h=>?_
  refine i_ (by kernel_rfl) (g_ ?_);refine lM [(0,0)] [] h fun r_4 hr_4 h=>?_
  refine it h (fun hc h=>?_) fun hc h=>?_
  ·refine lM [(0,0)] [] h fun r_5 hr_5 h=>?_
   refine it h (fun hc h=>?_) fun hc h=>?_
   ·refine lM [(0,0)] [] h fun r_6 hr_6 h=>?_
    refine iU h fun hp h=>?_
    cases h;exact gX.trans ((gX.trans (gX.fz 23 iD rfl (r_3.1++[r_6.1])) (gX.nW [3,33] (by simp)))) (gX.told yS jF)
   refine it h (fun hc h=>?_) fun hc h=>?_
   ·refine lM [(0,0)] [] h fun r_7 hr_7 h=>?_
    refine lM [(0,0)] [] h fun r_8 hr_8 h=>?_
    refine iU h fun hp h=>?_
    refine Eg ?_;cases h;exact gX.trans ((gX.trans (gX.fz 23 iD rfl (r_3.1.set r_7.1.toNat r_8.1)) (gX.nW [3] (by simp)))) (gX.told yS jF)
   refine it h (fun hc h=>?_) fun hc h=>?_
   ·refine iV.of ((gT.fz 23 iD rfl r_3.1)) ?_;refine aaa ?_;refine g_ ?_;refine iU h fun hp h=>?_
    cases h;exact gX.trans ((gX.nW [3] (by simp))) (gX.told yS jF)
   refine it h (fun hc h=>?_) fun hc h=>?_
   ·refine lM [(0,0)] [] h fun r_9 hr_9 h=>?_
    refine iU h fun hp h=>?_
    cases h;exact gX.trans ((gX.trans (gX.fz 23 iD rfl (r_3.1++[r_9.1])) (gX.nW [3,54] (by simp)))) (gX.told yS jF)
   cases h;exact gX.trans ((gX.trans (gX.fz 23 iD rfl r_3.1) (gX.nW [3] (by simp)))) (gX.told yS jF)
  cases h;exact gX.trans ((gX.trans (gX.fz 23 iD rfl r_3.1) (gX.nW [3] (by simp)))) (gX.told yS jF)
 refine lM [(0,0)] [] h fun r_10 hr_10 h=>?_
 cases h;exact gX.trans ((gX.nW [3,17] (by simp))) (gX.told yS jF)⟩
def Sk:gH:=
 (.seq (.gD (sq 3 [bo 3 27 1,.mv (.const (.slice none 0 0))])) (.seq (.seq (.gD (sq 5 [mv 0,.iw 75 [(t0 5),(i0 15)]])) (.cond (t0 6) (.seq (.gD (sq 7 [mv 0,la 1 3,cf 158 [7,8]]++sq 4 [mv 9])) .ret) .skip)) (.seq (.draw (sq 10 [mv 0,la 1 3,mv 0,.iw 77 [(t0 12),(i0 4)],.bin .add (i0 1) (t0 13),.iw 102 [(t0 10),(t0 11),(t0 14),(i0 2)]]++sq 4 [mv 15]) [[],[],[],[2],[3],[0,1,4,3],[5,5,0,1,2,3,4,5]]) .ret)))
theorem V6:jT Tryz.prog 101 Sk 16 [.tmp 4]:=mf Tryz.func101 Tryz.ntmps101
def iN(sig:fP)(c0:fP)(c1:Int)(c2:Int):Option fS:=
 (gR 15 c0 c1 c2).bind fun r=>
 if r.1=true then
  (jC sig c0 r.2.1 r.2.2).bind fun r_1=>
  some r_1
 else
  (gI 4 c0 r.2.1 r.2.2).bind fun r_2=>
  (iX sig (IntKind.i64.wrap (1+r_2.1)) 2 c0 r_2.2.1 r_2.2.2).bind fun r_3=>
  some r_3
instance Iu{sig:fP}{c0:fP}{c1:Int}{c2:Int}:gW (iN sig c0 c1 c2) fun rr=>gN Tryz.prog 101 [.ptr 0 0,.d (.agg [gE 1 iD sig])] [(0,.obj 119 [.d (gE 1 (kD .u8) c0),.d (iD c1),.d (iD c2)])] 1 fun xx ss=>xx=.d (gE 1 iD rr.1)/\ss=[(0,.obj 119 [.d (gE 1 (kD .u8) c0),.d (iD rr.2.1),.d (iD rr.2.2)])]:=⟨@fun rr h=>by
 delta iN at h;refine V6.jO (gC ?_);delta Sk;refine g_ ?_;refine lM [(0,0)] [] h fun r hr h=>?_
 refine it h (fun hc h=>?_) fun hc h=>?_
 ·refine lM [(0,0)] [] h fun r_1 hr_1 h=>?_
  cases h;exact⟨[3],by simp,jF,jF⟩
 refine xN [(0,0)] [] h fun r_2 hr_2 h=>?_
 refine xN [(0,0)] [] h fun r_3 hr_3 h=>?_
 refine i_ (by kernel_rfl) (g_ ?_);cases h;exact⟨[3],by simp,jF,jF⟩⟩
end Go.Proofs.YthdnkoejpdcnpaaGreat
