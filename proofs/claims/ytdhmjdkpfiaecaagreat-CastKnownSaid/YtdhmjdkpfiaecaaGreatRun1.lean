/- A part of the proof of CastKnown: no condition of its own. -/
import Derived.Test.YtdhmjdkpfiaecaaGreatPart6
import Derived.Test.YtdhmjdkpfiaecaaGreatPart5
import Derived.KernelRfl
noncomputable section
namespace Go.Gd
open Go Go.Gw Go.Conc Go.Proofs
theorem b31:Fb K3 X3 T30 F30 212 17 17 CX 60 k31=true:=by kernel_rfl
theorem b39:Iz C3 X3 F38 zS 17=true:=by kernel_rfl
end Go.Gd
end
