/- A part of the proof of CastKnown: no condition of its own. -/
import Derived.Test.YtdhmjdkpfiaecaaGreatPart6
import Derived.Test.YtdhmjdkpfiaecaaGreatPart5
import Derived.KernelRfl
noncomputable section
namespace Go.Gd
open Go Go.Gw Go.Conc Go.Proofs
theorem bTop:Zs K3 X3 T73 F73 212 17 17 CX (Lp C3 (.bool true)) 60 ⟨.out [],⟨CN 3 Tryz.f3 (Tryz.f3.body.getD .skip) [] .normal,[],⟨0,.nil,0,.nil⟩,0⟩⟩=true:=by kernel_rfl
theorem b71:Fb K3 X3 T70 F70 212 17 17 CX 60 k71=true:=by kernel_rfl
theorem tU:GD C3 X3 [12,11,10,9,8,6,5,4,2,1] (Cu k1 2 3 dE) (Gi 2 4) dD=some (Cu k1 2 4 dD):=by kernel_rfl
theorem mS:GD C3 X3 [12,11,10,9,8,6,5,4,2,1] (Cu k1 3 1 YN) (Gi 3 2) YM=some (Cu k1 3 2 YM):=by kernel_rfl
theorem mG:GD C3 X3 [12,11,10,9,8,6,5,4,2,1] (Cu k2 2 10 cW) (Gi 2 11) YB=some (Cu k2 2 11 YB):=by kernel_rfl
theorem b15:Iz C3 X3 F14 zp 17=true:=by kernel_rfl
end Go.Gd
end
