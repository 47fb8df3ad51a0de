/- A part of the proof of CastKnown: no condition of its own. -/
import Derived.Test.YtdhmjdkpfiaecaaGreatPart6
import Derived.Test.YtdhmjdkpfiaecaaGreatPart5
import Derived.KernelRfl
noncomputable section
namespace Go.Gd
open Go Go.Gw Go.Conc Go.Proofs
theorem b16:QL C3 X3 F15 212 17 17 60 zo=true:=by kernel_rfl
theorem b63:Fb K3 X3 T62 F62 212 17 17 CX 60 k63=true:=by kernel_rfl
theorem mU:GD C3 X3 [12,11,10,9,8,6,5,4,2,1] (Cu k1 2 12 YP) (Gi 2 13) YO=some (Cu k1 2 13 YO):=by kernel_rfl
theorem tF:GD C3 X3 [12,11,10,9,8,6,5,4,2,1] (Cu k2 2 8 cY) (Gi 2 9) cX=some (Cu k2 2 9 cX):=by kernel_rfl
theorem b10:Iz C3 X3 F9 zv 17=true:=by kernel_rfl
theorem b43:Iz C3 X3 F42 zP 17=true:=by kernel_rfl
end Go.Gd
end
