/- A part of the proof of CastKnown: no condition of its own. -/
import Derived.Test.YtdhmjdkpfiaecaaGreatPart6
import Derived.Test.YtdhmjdkpfiaecaaGreatPart5
import Derived.KernelRfl
noncomputable section
namespace Go.Gd
open Go Go.Gw Go.Conc Go.Proofs
theorem b57:Fb K3 X3 T56 F56 212 17 17 CX 60 k57=true:=by kernel_rfl
theorem tR:GD C3 X3 [12,11,10,9,8,6,5,4,2,1] (Cu k1 2 6 dB) (Gi 2 7) dA=some (Cu k1 2 7 dA):=by kernel_rfl
theorem tM:GD C3 X3 [12,11,10,9,8,6,5,4,2,1] (Cu k2 2 1 cq) (Gi 2 2) cn=some (Cu k2 2 2 cn):=by kernel_rfl
theorem ly:GD C3 X3 [12,11,10,9,8,6,5,4,2,1] (Cu k2 3 11 Xx) (Gi 3 12) Xw=some (Cu k2 3 12 Xw):=by kernel_rfl
end Go.Gd
end
