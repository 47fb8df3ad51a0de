/- A part of the proof of CastKnown: no condition of its own. -/
import Derived.Test.YtdhmjdkpfiaecaaGreatPart6
import Derived.Test.YtdhmjdkpfiaecaaGreatPart5
import Derived.KernelRfl
noncomputable section
namespace Go.Gd
open Go Go.Gw Go.Conc Go.Proofs
theorem b62:Fb K3 X3 T61 F61 212 17 17 CX 60 k62=true:=by kernel_rfl
theorem mM:GD C3 X3 [12,11,10,9,8,6,5,4,2,1] (Cu k1 3 7 YH) (Gi 3 8) YG=some (Cu k1 3 8 YG):=by kernel_rfl
theorem mA:GD C3 X3 [12,11,10,9,8,6,5,4,2,1] (Cu k2 3 3 X6) (Gi 3 4) X5=some (Cu k2 3 4 X5):=by kernel_rfl
theorem b49:Fb K3 X3 T48 F48 212 17 17 CX 60 k49=true:=by kernel_rfl
theorem b47:Iz C3 X3 F46 zL 17=true:=by kernel_rfl
end Go.Gd
end
