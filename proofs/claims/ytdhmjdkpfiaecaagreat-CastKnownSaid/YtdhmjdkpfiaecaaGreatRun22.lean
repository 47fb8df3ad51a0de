/- A part of the proof of CastKnown: no condition of its own. -/
import Derived.Test.YtdhmjdkpfiaecaaGreatPart6
import Derived.Test.YtdhmjdkpfiaecaaGreatPart5
import Derived.KernelRfl
noncomputable section
namespace Go.Gd
open Go Go.Gw Go.Conc Go.Proofs
theorem b24:Iz C3 X3 F23 zf 17=true:=by kernel_rfl
theorem b27:Iz C3 X3 F26 zb 17=true:=by kernel_rfl
theorem b35:Iz C3 X3 F34 zW 17=true:=by kernel_rfl
theorem mP:GD C3 X3 [12,11,10,9,8,6,5,4,2,1] (Cu k1 3 4 YK) (Gi 3 5) YJ=some (Cu k1 3 5 YJ):=by kernel_rfl
theorem mD:GD C3 X3 [12,11,10,9,8,7,4,2,0] (Cu k2 2 13 X9) (Gi 3 1) X8=some (Cu k2 3 1 X8):=by kernel_rfl
theorem b53:Fb K3 X3 T52 F52 212 17 17 CX 60 k53=true:=by kernel_rfl
end Go.Gd
end
