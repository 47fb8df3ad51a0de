/- A part of the proof of CastKnown: no condition of its own. -/
import Derived.Test.YtdhmjdkpfiaecaaGreatPart6
import Derived.Test.YtdhmjdkpfiaecaaGreatPart5
import Derived.KernelRfl
noncomputable section
namespace Go.Gd
open Go Go.Gw Go.Conc Go.Proofs
theorem b23:QL C3 X3 F22 212 17 17 60 zg=true:=by kernel_rfl
theorem b34:Iz C3 X3 F33 zX 17=true:=by kernel_rfl
theorem mW:GD C3 X3 [12,11,10,9,8,6,5,4,2,1] (Cu k1 2 10 cu) (Gi 2 11) YQ=some (Cu k1 2 11 YQ):=by kernel_rfl
theorem tH:GD C3 X3 [12,11,10,9,8,6,5,4,2,1] (Cu k2 2 6 ca) (Gi 2 7) cZ=some (Cu k2 2 7 cZ):=by kernel_rfl
theorem b6:Iz C3 X3 F5 k6 17=true:=by kernel_rfl
theorem b72:Fb K3 X3 T71 F71 212 17 17 CX 60 k72=true:=by kernel_rfl
end Go.Gd
end
