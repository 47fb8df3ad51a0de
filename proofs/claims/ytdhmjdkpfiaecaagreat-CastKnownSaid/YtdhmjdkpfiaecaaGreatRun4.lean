/- A part of the proof of CastKnown: no condition of its own. -/
import Derived.Test.YtdhmjdkpfiaecaaGreatPart6
import Derived.Test.YtdhmjdkpfiaecaaGreatPart5
import Derived.KernelRfl
noncomputable section
namespace Go.Gd
open Go Go.Gw Go.Conc Go.Proofs
theorem b60:Fb K3 X3 T59 F59 212 17 17 CX 60 k60=true:=by kernel_rfl
theorem mK:GD C3 X3 [12,11,10,9,8,6,5,4,2,1] (Cu k1 3 9 YF) (Gi 3 10) YE=some (Cu k1 3 10 YE):=by kernel_rfl
theorem l8:GD C3 X3 [12,11,10,9,8,6,5,4,2,1] (Cu k2 3 5 X4) (Gi 3 6) X2=some (Cu k2 3 6 X2):=by kernel_rfl
theorem b50:Fb K3 X3 T49 F49 212 17 17 CX 60 k50=true:=by kernel_rfl
theorem b55:Iz C3 X3 F54 zK 17=true:=by kernel_rfl
end Go.Gd
end
