/- A part of the proof of SlipKnown: no condition of its own. -/
import Derived.Test.YtpcfddjdklmeaaaGreatDoorPart6
import Derived.KernelRfl
noncomputable section
namespace Go.Gd
open Go Go.Gw Go.Conc Go.Proofs
theorem b77 : kOk C3 X3 T76 k77 16 = true := by kernel_rfl
theorem b78 : kOk C3 X3 T77 k78 16 = true := by kernel_rfl
theorem nseg3 : seg C3 X3 [12, 11, 10, 9, 8, 6, 5, 4, 2, 1] (nst 7 3 no2) (ntm 7 4) no3 = some (nst 7 4 no3) := by kernel_rfl
theorem nseg14 : seg C3 X3 [12, 11, 10, 9, 8, 6, 5, 4, 2, 1] (nst 8 1 no13) (ntm 8 2) no14 = some (nst 8 2 no14) := by kernel_rfl
theorem nseg25 : seg C3 X3 [12, 11, 10, 9, 8, 6, 5, 4, 2, 1] (nst 8 12 no24) (ntm 8 13) no25 = some (nst 8 13 no25) := by kernel_rfl
theorem b117 : kOk C3 X3 T116 k117 16 = true := by kernel_rfl
theorem b15 : kOk C3 X3 T14 k15 16 = true := by kernel_rfl
theorem b30 : kOk C3 X3 T29 k30 16 = true := by kernel_rfl
theorem b46 : kOk C3 X3 T45 k46 16 = true := by kernel_rfl
theorem b59 : kOk C3 X3 T58 k59 16 = true := by kernel_rfl
theorem b114 : kOk C3 X3 T113 k114 16 = true := by kernel_rfl
theorem b32 : kOkG C3 X3 T31 373 13 16 60 k32 = true := by kernel_rfl
theorem b90 : kOk C3 X3 T89 k90 16 = true := by kernel_rfl
end Go.Gd
end
