/- A part of the proof of SlipKnown: no condition of its own. -/
import Derived.Test.YtpcfddjdklmeaaaGreatDoorPart6
import Derived.KernelRfl
noncomputable section
namespace Go.Gd
open Go Go.Gw Go.Conc Go.Proofs
theorem b86 : kOk C3 X3 T85 k86 16 = true := by kernel_rfl
theorem nseg0 : seg C3 X3 [12, 11, 10, 9, 8, 7, 3, 1] nS0 (ntm 7 1) no0 = some (nst 7 1 no0) := by kernel_rfl
theorem nseg11 : seg C3 X3 [12, 11, 10, 9, 8, 6, 5, 4, 2, 1] (nst 7 11 no10) (ntm 7 12) no11 = some (nst 7 12 no11) := by kernel_rfl
theorem nseg22 : seg C3 X3 [12, 11, 10, 9, 8, 6, 5, 4, 2, 1] (nst 8 9 no21) (ntm 8 10) no22 = some (nst 8 10 no22) := by kernel_rfl
theorem b82 : kOk C3 X3 T81 k82 16 = true := by kernel_rfl
theorem b6 : kOk C3 X3 T5 k6 16 = true := by kernel_rfl
theorem b20 : kOk C3 X3 T19 k20 16 = true := by kernel_rfl
theorem b36 : kOk C3 X3 T35 k36 16 = true := by kernel_rfl
theorem b51 : kOk C3 X3 T50 k51 16 = true := by kernel_rfl
theorem b63 : kOk C3 X3 T62 k63 16 = true := by kernel_rfl
theorem b13 : kOkG C3 X3 T12 373 13 16 60 k13 = true := by kernel_rfl
theorem b110 : kOk C3 X3 T109 k110 16 = true := by kernel_rfl
theorem b88 : kOk C3 X3 T87 k88 16 = true := by kernel_rfl
end Go.Gd
end
