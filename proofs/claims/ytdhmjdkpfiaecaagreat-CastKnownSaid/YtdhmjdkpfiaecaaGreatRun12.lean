/- A part of the proof of CastKnown: no condition of its own. -/
import Derived.Test.YtdhmjdkpfiaecaaGreatPart6
import Derived.Test.YtdhmjdkpfiaecaaGreatPart5
import Derived.KernelRfl
noncomputable section
namespace Go.Gd
open Go Go.Gw Go.Conc Go.Proofs
theorem b67:QL C3 X3 F66 212 17 17 60 zH=true:=by kernel_rfl
theorem b56:Fb K3 X3 T55 F55 212 17 17 CX 60 k56=true:=by kernel_rfl
theorem mT:GD C3 X3 [12,11,10,9,8,7,4,2,0] (Cu k1 2 13 YO) (Gi 3 1) YN=some (Cu k1 3 1 YN):=by kernel_rfl
theorem tE:GD C3 X3 [12,11,10,9,8,6,5,4,2,1] (Cu k2 2 9 cX) (Gi 2 10) cW=some (Cu k2 2 10 cW):=by kernel_rfl
theorem b12:Iz C3 X3 F11 zt 17=true:=by kernel_rfl
theorem b45:Iz C3 X3 F44 zN 17=true:=by kernel_rfl
end Go.Gd
end
