/- A part of the proof of CastKnown: no condition of its own. -/
import Derived.Test.YtdhmjdkpfiaecaaGreatPart6
import Derived.Test.YtdhmjdkpfiaecaaGreatPart5
import Derived.KernelRfl
noncomputable section
namespace Go.Gd
open Go Go.Gw Go.Conc Go.Proofs
theorem b40:QL C3 X3 F39 212 17 17 60 zR=true:=by kernel_rfl
theorem b42:Fb K3 X3 T41 F41 212 17 17 CX 60 k42=true:=by kernel_rfl
theorem tP:GD C3 X3 [12,11,10,9,8,6,5,4,2,1] (Cu k1 2 8 cz) (Gi 2 9) cy=some (Cu k1 2 9 cy):=by kernel_rfl
theorem tJ:GD C3 X3 [12,11,10,9,8,6,5,4,2,1] (Cu k2 2 4 cf) (Gi 2 5) cb=some (Cu k2 2 5 cb):=by kernel_rfl
theorem b38:Iz C3 X3 F37 zT 17=true:=by kernel_rfl
theorem b44:Iz C3 X3 F43 zO 17=true:=by kernel_rfl
end Go.Gd
end
