/- A part of the proof of CastKnown: no condition of its own. -/
import Derived.Test.YtdhmjdkpfiaecaaGreatPart6
import Derived.Test.YtdhmjdkpfiaecaaGreatPart5
import Derived.KernelRfl
noncomputable section
namespace Go.Gd
open Go Go.Gw Go.Conc Go.Proofs
theorem b21:Iz C3 X3 F20 zi 17=true:=by kernel_rfl
theorem b28:QL C3 X3 F27 212 17 17 60 zZ=true:=by kernel_rfl
theorem b61:Fb K3 X3 T60 F60 212 17 17 CX 60 k61=true:=by kernel_rfl
theorem mR:GD C3 X3 [12,11,10,9,8,6,5,4,2,1] (Cu k1 3 2 YM) (Gi 3 3) YL=some (Cu k1 3 3 YL):=by kernel_rfl
theorem mF:GD C3 X3 [12,11,10,9,8,6,5,4,2,1] (Cu k2 2 11 YB) (Gi 2 12) YA=some (Cu k2 2 12 YA):=by kernel_rfl
theorem b22:Iz C3 X3 F21 zh 17=true:=by kernel_rfl
end Go.Gd
end
