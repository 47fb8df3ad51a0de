/- A part of the proof of CastKnown: no condition of its own. -/
import Derived.Test.YtdhmjdkpfiaecaaGreatPart6
import Derived.Test.YtdhmjdkpfiaecaaGreatPart5
import Derived.KernelRfl
noncomputable section
namespace Go.Gd
open Go Go.Gw Go.Conc Go.Proofs
theorem b68:Iz C3 X3 F67 zG 17=true:=by kernel_rfl
theorem b29:Iz C3 X3 F28 zY 17=true:=by kernel_rfl
theorem mI:GD C3 X3 [12,11,10,9,8,6,5,4,2,1] (Cu k1 3 11 YD) (Gi 3 12) YC=some (Cu k1 3 12 YC):=by kernel_rfl
theorem l4:GD C3 X3 [12,11,10,9,8,6,5,4,2,1] (Cu k2 3 8 X0) (Gi 3 9) Xz=some (Cu k2 3 9 Xz):=by kernel_rfl
theorem b9:Iz C3 X3 F8 k9 17=true:=by kernel_rfl
end Go.Gd
end
