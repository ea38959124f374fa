/- A part of the proof about FnAcNormal and about FnAcSteps (D7_8, D7, D2). -/
import Derived.Test.YthdnkoejpdcnpaaGreatNam
set_option linter.all false
namespace Go.Proofs.YthdnkoejpdcnpaaGreat
open Go kI
attribute [local irreducible] sO uf uc lu kf pG iV xm xQ wz xP wu pY kr lq xO ia jN
set_option maxHeartbeats 4000000
end Go.Proofs.YthdnkoejpdcnpaaGreat
namespace Go.Proofs.YthdnkoejpdcnpaaGreat
open Go kI
attribute [local irreducible] sO uf uc lu kf pG iV xm xQ wz xP wu pY kr lq xO ia jN
set_option maxHeartbeats 4000000
set_option maxRecDepth 4000
def Xu:gH:=
 (.seq (.gD (sq 2 [mb false])) (.seq (.gD (sq 3 [mv 0,ln 3,bi .gtr 4 4096]++sq 2 [mv 5])) .ret))
theorem Y1:jT Tryz.prog 24 Xu 6 [.tmp 2]:=mf Tryz.func24 Tryz.ntmps24
noncomputable def uq(code:fP):Option Bool:=
 some (decide (4096<(code.length:Int)))
instance Ue{code:fP}:gW (uq code) fun rr=>iC Tryz.prog 24 [(gE 1 (kD .u8)) code] (bD rr):=⟨@fun rr h=>by
 delta uq at h;refine Y1.iA (gC ?_);delta Xu;refine g_ ?_;exact mm⟩
end Go.Proofs.YthdnkoejpdcnpaaGreat
