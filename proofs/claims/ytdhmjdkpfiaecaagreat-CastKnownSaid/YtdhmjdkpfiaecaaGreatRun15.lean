/- A part of the proof of CastKnown: no condition of its own. -/
import Derived.Test.YtdhmjdkpfiaecaaGreatPart6
import Derived.Test.YtdhmjdkpfiaecaaGreatPart5
import Derived.KernelRfl
noncomputable section
namespace Go.Gd
open Go Go.Gw Go.Conc Go.Proofs
theorem b20:QL C3 X3 F19 212 17 17 60 zk=true:=by kernel_rfl
theorem b64:Fb K3 X3 T63 F63 212 17 17 CX 60 k64=true:=by kernel_rfl
theorem mV:GD C3 X3 [12,11,10,9,8,6,5,4,2,1] (Cu k1 2 11 YQ) (Gi 2 12) YP=some (Cu k1 2 12 YP):=by kernel_rfl
theorem tG:GD C3 X3 [12,11,10,9,8,6,5,4,2,1] (Cu k2 2 7 cZ) (Gi 2 8) cY=some (Cu k2 2 8 cY):=by kernel_rfl
theorem b8:Iz C3 X3 F7 k8 17=true:=by kernel_rfl
theorem b46:Iz C3 X3 F45 zM 17=true:=by kernel_rfl
end Go.Gd
end
