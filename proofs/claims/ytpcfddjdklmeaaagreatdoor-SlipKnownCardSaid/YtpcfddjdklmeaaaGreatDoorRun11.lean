/- A part of the proof of SlipKnown: no condition of its own. -/
import Derived.Test.YtpcfddjdklmeaaaGreatDoorPart6
import Derived.KernelRfl
noncomputable section
namespace Go.Gd
open Go Go.Gw Go.Conc Go.Proofs
theorem b81 : kOk C3 X3 T80 k81 16 = true := by kernel_rfl
theorem b83 : kOk C3 X3 T82 k83 16 = true := by kernel_rfl
theorem nseg2 : seg C3 X3 [12, 11, 10, 9, 8, 6, 5, 4, 2, 1] (nst 7 2 no1) (ntm 7 3) no2 = some (nst 7 3 no2) := by kernel_rfl
theorem nseg13 : seg C3 X3 [12, 11, 10, 9, 8, 7, 4, 2, 0] (nst 7 13 no12) (ntm 8 1) no13 = some (nst 8 1 no13) := by kernel_rfl
theorem nseg24 : seg C3 X3 [12, 11, 10, 9, 8, 6, 5, 4, 2, 1] (nst 8 11 no23) (ntm 8 12) no24 = some (nst 8 12 no24) := by kernel_rfl
theorem b101 : kOk C3 X3 T100 k101 16 = true := by kernel_rfl
theorem b12 : kOk C3 X3 T11 k12 16 = true := by kernel_rfl
theorem b28 : kOk C3 X3 T27 k28 16 = true := by kernel_rfl
theorem b43 : kOk C3 X3 T42 k43 16 = true := by kernel_rfl
theorem b57 : kOk C3 X3 T56 k57 16 = true := by kernel_rfl
theorem b120 : kOk C3 X3 T119 k120 16 = true := by kernel_rfl
theorem b35 : kOkG C3 X3 T34 373 13 16 60 k35 = true := by kernel_rfl
theorem b103 : kOk C3 X3 T102 k103 16 = true := by kernel_rfl
end Go.Gd
end
