/- A part of the proof of SlipKnown: no condition of its own. -/
import Derived.Test.YtpcfddjdklmeaaaGreatDoorPart6
import Derived.KernelRfl
noncomputable section
namespace Go.Gd
open Go Go.Gw Go.Conc Go.Proofs
theorem b121 : kOk C3 X3 T120 k121 16 = true := by kernel_rfl
theorem nseg1 : seg C3 X3 [12, 11, 10, 9, 8, 6, 5, 4, 2, 1] (nst 7 1 no0) (ntm 7 2) no1 = some (nst 7 2 no1) := by kernel_rfl
theorem nseg12 : seg C3 X3 [12, 11, 10, 9, 8, 6, 5, 4, 2, 1] (nst 7 12 no11) (ntm 7 13) no12 = some (nst 7 13 no12) := by kernel_rfl
theorem nseg23 : seg C3 X3 [12, 11, 10, 9, 8, 6, 5, 4, 2, 1] (nst 8 10 no22) (ntm 8 11) no23 = some (nst 8 11 no23) := by kernel_rfl
theorem b118 : kOk C3 X3 T117 k118 16 = true := by kernel_rfl
theorem b11 : kOk C3 X3 T10 k11 16 = true := by kernel_rfl
theorem b26 : kOk C3 X3 T25 k26 16 = true := by kernel_rfl
theorem b41 : kOk C3 X3 T40 k41 16 = true := by kernel_rfl
theorem b56 : kOk C3 X3 T55 k56 16 = true := by kernel_rfl
theorem b79 : kOk C3 X3 T78 k79 16 = true := by kernel_rfl
theorem b27 : kOkG C3 X3 T26 373 13 16 60 k27 = true := by kernel_rfl
theorem b87 : kOk C3 X3 T86 k87 16 = true := by kernel_rfl
theorem b89 : kOk C3 X3 T88 k89 16 = true := by kernel_rfl
theorem b65 : kOk C3 X3 T64 k65 16 = true := by kernel_rfl
end Go.Gd
end
