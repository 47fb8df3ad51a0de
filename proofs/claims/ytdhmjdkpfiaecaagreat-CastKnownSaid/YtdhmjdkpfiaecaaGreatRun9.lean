/- A part of the proof of CastKnown: no condition of its own. -/
import Derived.Test.YtdhmjdkpfiaecaaGreatPart6
import Derived.Test.YtdhmjdkpfiaecaaGreatPart5
import Derived.KernelRfl
noncomputable section
namespace Go.Gd
open Go Go.Gw Go.Conc Go.Proofs
theorem b32:Fb K3 X3 T31 F31 212 17 17 CX 60 k32=true:=by kernel_rfl
theorem tX:GD C3 X3 [12,11,10,9,8,7,3,1] (nS k1) (Gi 2 1) dG=some (Cu k1 2 1 dG):=by kernel_rfl
theorem tS:GD C3 X3 [12,11,10,9,8,6,5,4,2,1] (Cu k1 2 5 dC) (Gi 2 6) dB=some (Cu k1 2 6 dB):=by kernel_rfl
theorem tN:GD C3 X3 [12,11,10,9,8,7,3,1] (nS k2) (Gi 2 1) cq=some (Cu k2 2 1 cq):=by kernel_rfl
theorem lz:GD C3 X3 [12,11,10,9,8,6,5,4,2,1] (Cu k2 3 10 Xy) (Gi 3 11) Xx=some (Cu k2 3 11 Xx):=by kernel_rfl
end Go.Gd
end
