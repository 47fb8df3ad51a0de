/- A part of the proof of SlipKnown: no condition of its own. -/
import Derived.Test.YtpcfddjdklmeaaaGreatDoorPart6
import Derived.KernelRfl
noncomputable section
namespace Go.Gd
open Go Go.Gw Go.Conc Go.Proofs
theorem b102 : kOk C3 X3 T101 k102 16 = true := by kernel_rfl
theorem b80 : kOk C3 X3 T79 k80 16 = true := by kernel_rfl
theorem nseg4 : seg C3 X3 [12, 11, 10, 9, 8, 6, 5, 4, 2, 1] (nst 7 4 no3) (ntm 7 5) no4 = some (nst 7 5 no4) := by kernel_rfl
theorem nseg15 : seg C3 X3 [12, 11, 10, 9, 8, 6, 5, 4, 2, 1] (nst 8 2 no14) (ntm 8 3) no15 = some (nst 8 3 no15) := by kernel_rfl
theorem b74 : kOk C3 X3 T73 k74 16 = true := by kernel_rfl
theorem b2 : kOk C3 X3 T1 k2 16 = true := by kernel_rfl
theorem b14 : kOk C3 X3 T13 k14 16 = true := by kernel_rfl
theorem b29 : kOk C3 X3 T28 k29 16 = true := by kernel_rfl
theorem b44 : kOk C3 X3 T43 k44 16 = true := by kernel_rfl
theorem b58 : kOk C3 X3 T57 k58 16 = true := by kernel_rfl
theorem b119 : kOk C3 X3 T118 k119 16 = true := by kernel_rfl
theorem b38 : kOkG C3 X3 T37 373 13 16 60 k38 = true := by kernel_rfl
theorem b64 : kOk C3 X3 T63 k64 16 = true := by kernel_rfl
end Go.Gd
end
