/- A part of the proof of CastKnown: no condition of its own. -/
import Derived.Test.YtdhmjdkpfiaecaaGreatPart6
import Derived.Test.YtdhmjdkpfiaecaaGreatPart5
import Derived.KernelRfl
noncomputable section
namespace Go.Gd
open Go Go.Gw Go.Conc Go.Proofs
theorem b14:Iz C3 X3 F13 zq 17=true:=by kernel_rfl
theorem b25:Iz C3 X3 F24 ze 17=true:=by kernel_rfl
theorem tV:GD C3 X3 [12,11,10,9,8,6,5,4,2,1] (Cu k1 2 2 dF) (Gi 2 3) dE=some (Cu k1 2 3 dE):=by kernel_rfl
theorem tO:GD C3 X3 [12,11,10,9,8,6,5,4,2,1] (Cu k1 2 9 cy) (Gi 2 10) cu=some (Cu k1 2 10 cu):=by kernel_rfl
theorem tI:GD C3 X3 [12,11,10,9,8,6,5,4,2,1] (Cu k2 2 5 cb) (Gi 2 6) ca=some (Cu k2 2 6 ca):=by kernel_rfl
theorem b4:Iz C3 X3 F3 k4 17=true:=by kernel_rfl
theorem ne2:K6 C3 k2 (Us C3 X3 [9] (Cu k2 3 13 TK))=true:=by kernel_rfl
end Go.Gd
end
