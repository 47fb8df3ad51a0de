/- A part of the proof of CastKnown: no condition of its own. -/
import Derived.Test.YtdhmjdkpfiaecaaGreatPart6
import Derived.Test.YtdhmjdkpfiaecaaGreatPart5
import Derived.KernelRfl
noncomputable section
namespace Go.Gd
open Go Go.Gw Go.Conc Go.Proofs
theorem b70:Fb K3 X3 T69 F69 212 17 17 CX 60 k70=true:=by kernel_rfl
theorem l5:GD C3 X3 [12,11,10,9,8,6,5,4,2,1] (Cu k2 3 7 X1) (Gi 3 8) X0=some (Cu k2 3 8 X0):=by kernel_rfl
theorem b7:Iz C3 X3 F6 k7 17=true:=by kernel_rfl
end Go.Gd
end
