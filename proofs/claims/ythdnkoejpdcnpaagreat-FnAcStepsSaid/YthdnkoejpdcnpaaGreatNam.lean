/- A part of the proof about FnAcNormal and about FnAcSteps (D7_7). -/
import Derived.Test.YthdnkoejpdcnpaaGreatNal
set_option linter.all false
namespace Go.Proofs.YthdnkoejpdcnpaaGreat
open Go kI
attribute [local irreducible] sO uf uc lu kf pG iV xm xQ wz xP wu pY kr lq xO ia jN
set_option maxHeartbeats 4000000
set_option maxRecDepth 8000
end Go.Proofs.YthdnkoejpdcnpaaGreat
