/- A part of the proof of CastKnown: no condition of its own. -/
import Derived.Test.YtdhmjdkpfiaecaaGreatPart6
import Derived.Test.YtdhmjdkpfiaecaaGreatPart5
import Derived.KernelRfl
noncomputable section
namespace Go.Gd
open Go Go.Gw Go.Conc Go.Proofs
theorem b59:Fb K3 X3 T58 F58 212 17 17 CX 60 k59=true:=by kernel_rfl
theorem mL:GD C3 X3 [12,11,10,9,8,6,5,4,2,1] (Cu k1 3 8 YG) (Gi 3 9) YF=some (Cu k1 3 9 YF):=by kernel_rfl
theorem l9:GD C3 X3 [12,11,10,9,8,6,5,4,2,1] (Cu k2 3 4 X5) (Gi 3 5) X4=some (Cu k2 3 5 X4):=by kernel_rfl
theorem b48:Fb K3 X3 T47 F47 212 17 17 CX 60 k48=true:=by kernel_rfl
theorem b73:Fb K3 X3 T72 F72 212 17 17 CX 60 k73=true:=by kernel_rfl
end Go.Gd
end
