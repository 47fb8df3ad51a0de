/- A part of the proof of CastKnown: no condition of its own. -/
import Derived.Test.YtdhmjdkpfiaecaaGreatPart6
import Derived.Test.YtdhmjdkpfiaecaaGreatPart5
import Derived.KernelRfl
noncomputable section
namespace Go.Gd
open Go Go.Gw Go.Conc Go.Proofs
theorem b69:Fb K3 X3 T68 F68 212 17 17 CX 60 k69=true:=by kernel_rfl
theorem b33:Fb K3 X3 T32 F32 212 17 17 CX 60 k33=true:=by kernel_rfl
theorem mQ:GD C3 X3 [12,11,10,9,8,6,5,4,2,1] (Cu k1 3 3 YL) (Gi 3 4) YK=some (Cu k1 3 4 YK):=by kernel_rfl
theorem mE:GD C3 X3 [12,11,10,9,8,6,5,4,2,1] (Cu k2 2 12 YA) (Gi 2 13) X9=some (Cu k2 2 13 X9):=by kernel_rfl
theorem b54:Fb K3 X3 T53 F53 212 17 17 CX 60 k54=true:=by kernel_rfl
end Go.Gd
end
