/- A part of the proof of CastKnown: no condition of its own. -/
import Derived.Test.YtdhmjdkpfiaecaaGreatPart6
import Derived.Test.YtdhmjdkpfiaecaaGreatPart5
import Derived.KernelRfl
noncomputable section
namespace Go.Gd
open Go Go.Gw Go.Conc Go.Proofs
theorem b13:QL C3 X3 F12 212 17 17 60 zr=true:=by kernel_rfl
theorem b36:Iz C3 X3 F11 zV 17=true:=by kernel_rfl
theorem mN:GD C3 X3 [12,11,10,9,8,6,5,4,2,1] (Cu k1 3 6 YI) (Gi 3 7) YH=some (Cu k1 3 7 YH):=by kernel_rfl
theorem mB:GD C3 X3 [12,11,10,9,8,6,5,4,2,1] (Cu k2 3 2 X7) (Gi 3 3) X6=some (Cu k2 3 3 X6):=by kernel_rfl
theorem b51:Fb K3 X3 T50 F50 212 17 17 CX 60 k51=true:=by kernel_rfl
theorem b11:Iz C3 X3 F10 zu 17=true:=by kernel_rfl
end Go.Gd
end
