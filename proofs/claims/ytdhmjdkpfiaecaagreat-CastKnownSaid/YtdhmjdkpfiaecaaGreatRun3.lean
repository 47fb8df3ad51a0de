/- A part of the proof of CastKnown: no condition of its own. -/
import Derived.Test.YtdhmjdkpfiaecaaGreatPart6
import Derived.Test.YtdhmjdkpfiaecaaGreatPart5
import Derived.KernelRfl
noncomputable section
namespace Go.Gd
open Go Go.Gw Go.Conc Go.Proofs
theorem b26:Fb K3 X3 T25 F25 212 17 17 CX 60 k26=true:=by kernel_rfl
theorem mH:GD C3 X3 [12,11,10,9,8,6,5,4,2,1] (Cu k1 3 12 YC) (Gi 3 13) TL=some (Cu k1 3 13 TL):=by kernel_rfl
theorem l3:GD C3 X3 [12,11,10,9,8,6,5,4,2,1] (Cu k2 3 9 Xz) (Gi 3 10) Xy=some (Cu k2 3 10 Xy):=by kernel_rfl
theorem b19:Iz C3 X3 F18 zl 17=true:=by kernel_rfl
end Go.Gd
end
