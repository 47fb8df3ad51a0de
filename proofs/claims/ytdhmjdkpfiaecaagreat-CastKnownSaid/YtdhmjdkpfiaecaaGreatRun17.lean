/- A part of the proof of CastKnown: no condition of its own. -/
import Derived.Test.YtdhmjdkpfiaecaaGreatPart6
import Derived.Test.YtdhmjdkpfiaecaaGreatPart5
import Derived.KernelRfl
noncomputable section
namespace Go.Gd
open Go Go.Gw Go.Conc Go.Proofs
theorem b65:QL C3 X3 F64 212 17 17 60 zJ=true:=by kernel_rfl
theorem b37:Iz C3 X3 F11 zU 17=true:=by kernel_rfl
theorem tT:GD C3 X3 [12,11,10,9,8,6,5,4,2,1] (Cu k1 2 4 dD) (Gi 2 5) dC=some (Cu k1 2 5 dC):=by kernel_rfl
theorem mJ:GD C3 X3 [12,11,10,9,8,6,5,4,2,1] (Cu k1 3 10 YE) (Gi 3 11) YD=some (Cu k1 3 11 YD):=by kernel_rfl
theorem l6:GD C3 X3 [12,11,10,9,8,6,5,4,2,1] (Cu k2 3 6 X2) (Gi 3 7) X1=some (Cu k2 3 7 X1):=by kernel_rfl
theorem b5:Iz C3 X3 F4 k5 17=true:=by kernel_rfl
end Go.Gd
end
