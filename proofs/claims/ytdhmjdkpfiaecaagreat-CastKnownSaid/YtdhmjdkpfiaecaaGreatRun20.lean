/- A part of the proof of CastKnown: no condition of its own. -/
import Derived.Test.YtdhmjdkpfiaecaaGreatPart6
import Derived.Test.YtdhmjdkpfiaecaaGreatPart5
import Derived.KernelRfl
noncomputable section
namespace Go.Gd
open Go Go.Gw Go.Conc Go.Proofs
theorem b17:Iz C3 X3 F16 zn 17=true:=by kernel_rfl
theorem b3:Iz C3 X3 F2 k3 17=true:=by kernel_rfl
theorem tW:GD C3 X3 [12,11,10,9,8,6,5,4,2,1] (Cu k1 2 1 dG) (Gi 2 2) dF=some (Cu k1 2 2 dF):=by kernel_rfl
theorem tQ:GD C3 X3 [12,11,10,9,8,6,5,4,2,1] (Cu k1 2 7 dA) (Gi 2 8) cz=some (Cu k1 2 8 cz):=by kernel_rfl
theorem tL:GD C3 X3 [12,11,10,9,8,6,5,4,2,1] (Cu k2 2 2 cn) (Gi 2 3) cj=some (Cu k2 2 3 cj):=by kernel_rfl
theorem lx:GD C3 X3 [12,11,10,9,8,6,5,4,2,1] (Cu k2 3 12 Xw) (Gi 3 13) TK=some (Cu k2 3 13 TK):=by kernel_rfl
end Go.Gd
end
