/- A part of the proof of CastKnown: no condition of its own. -/
import Derived.Test.YtdhmjdkpfiaecaaGreatPart6
import Derived.Test.YtdhmjdkpfiaecaaGreatPart5
import Derived.KernelRfl
noncomputable section
namespace Go.Gd
open Go Go.Gw Go.Conc Go.Proofs
theorem b41:Iz C3 X3 F40 zQ 17=true:=by kernel_rfl
theorem b66:Iz C3 X3 F65 zI 17=true:=by kernel_rfl
theorem tK:GD C3 X3 [12,11,10,9,8,6,5,4,2,1] (Cu k2 2 3 cj) (Gi 2 4) cf=some (Cu k2 2 4 cf):=by kernel_rfl
theorem b30:Fb K3 X3 T29 F29 212 17 17 CX 60 k30=true:=by kernel_rfl
theorem ne1:K6 C3 k1 (Us C3 X3 [9] (Cu k1 3 13 TL))=true:=by kernel_rfl
end Go.Gd
end
