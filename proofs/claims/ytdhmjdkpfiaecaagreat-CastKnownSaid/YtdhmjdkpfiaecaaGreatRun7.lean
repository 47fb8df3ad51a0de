/- A part of the proof of CastKnown: no condition of its own. -/
import Derived.Test.YtdhmjdkpfiaecaaGreatPart6
import Derived.Test.YtdhmjdkpfiaecaaGreatPart5
import Derived.KernelRfl
noncomputable section
namespace Go.Gd
open Go Go.Gw Go.Conc Go.Proofs
theorem b58:Fb K3 X3 T57 F57 212 17 17 CX 60 k58=true:=by kernel_rfl
theorem mO:GD C3 X3 [12,11,10,9,8,6,5,4,2,1] (Cu k1 3 5 YJ) (Gi 3 6) YI=some (Cu k1 3 6 YI):=by kernel_rfl
theorem mC:GD C3 X3 [12,11,10,9,8,6,5,4,2,1] (Cu k2 3 1 X8) (Gi 3 2) X7=some (Cu k2 3 2 X7):=by kernel_rfl
theorem b52:Fb K3 X3 T51 F51 212 17 17 CX 60 k52=true:=by kernel_rfl
theorem b18:Iz C3 X3 F17 zm 17=true:=by kernel_rfl
end Go.Gd
end
