/- A part of the proof of SlipKnown: no condition of its own. -/
import Derived.Test.YtpcfddjdklmeaaaGreatDoorPart6
import Derived.KernelRfl
noncomputable section
namespace Go.Gd
open Go Go.Gw Go.Conc Go.Proofs
theorem b98 : kOk C3 X3 T97 k98 16 = true := by kernel_rfl
theorem b69 : kOk C3 X3 T68 k69 16 = true := by kernel_rfl
theorem nseg10 : seg C3 X3 [12, 11, 10, 9, 8, 6, 5, 4, 2, 1] (nst 7 10 no9) (ntm 7 11) no10 = some (nst 7 11 no10) := by kernel_rfl
theorem nseg21 : seg C3 X3 [12, 11, 10, 9, 8, 6, 5, 4, 2, 1] (nst 8 8 no20) (ntm 8 9) no21 = some (nst 8 9 no21) := by kernel_rfl
theorem b112 : kOk C3 X3 T111 k112 16 = true := by kernel_rfl
theorem b3 : kOk C3 X3 T2 k3 16 = true := by kernel_rfl
theorem b17 : kOk C3 X3 T16 k17 16 = true := by kernel_rfl
theorem b31 : kOk C3 X3 T30 k31 16 = true := by kernel_rfl
theorem b47 : kOk C3 X3 T46 k47 16 = true := by kernel_rfl
theorem b60 : kOk C3 X3 T59 k60 16 = true := by kernel_rfl
theorem b116 : kOk C3 X3 T115 k116 16 = true := by kernel_rfl
theorem b108 : kOk C3 X3 T107 k108 16 = true := by kernel_rfl
theorem b99 : kOk C3 X3 T98 k99 16 = true := by kernel_rfl
end Go.Gd
end
