/- A part of the proof of SlipKnown: no condition of its own. -/
import Derived.Test.YtpcfddjdklmeaaaGreatDoorPart6
import Derived.KernelRfl
noncomputable section
namespace Go.Gd
open Go Go.Gw Go.Conc Go.Proofs
def L49 : LL := mkLL k42 k49
theorem l49a : L49.start C3 X3 T48 373 = some (L49.pg, L49.F 0 L49.T0) := by kernel_rfl
theorem l49b : L49.okB = true := by kernel_rfl
theorem l49c : L49.fin C3 X3 T48 373 = true := by kernel_rfl
theorem l49s0 : L49.Step C3 X3 0 L49.kids := by
 refine ⟨?_, ?_, ?_, ?_, ?_, ?_, ?_, ?_, ?_, ?_, ?_, ?_, trivial⟩ <;> (intro t; kernel_rfl)
theorem l49s1 : L49.Step C3 X3 1 L49.kids := by
 refine ⟨?_, ?_, ?_, ?_, ?_, ?_, ?_, ?_, ?_, ?_, ?_, ?_, trivial⟩ <;> (intro t; kernel_rfl)
theorem l49s2 : L49.Step C3 X3 2 L49.kids := by
 refine ⟨?_, ?_, ?_, ?_, ?_, ?_, ?_, ?_, ?_, ?_, ?_, ?_, trivial⟩ <;> (intro t; kernel_rfl)
theorem l49s3 : L49.Step C3 X3 3 L49.kids := by
 refine ⟨?_, ?_, ?_, ?_, ?_, ?_, ?_, ?_, ?_, ?_, ?_, ?_, trivial⟩ <;> (intro t; kernel_rfl)
theorem l49s4 : L49.Step C3 X3 4 L49.kids := by
 refine ⟨?_, ?_, ?_, ?_, ?_, ?_, ?_, ?_, ?_, ?_, ?_, ?_, trivial⟩ <;> (intro t; kernel_rfl)
theorem l49s5 : L49.Step C3 X3 5 L49.kids := by
 refine ⟨?_, ?_, ?_, ?_, ?_, ?_, ?_, ?_, ?_, ?_, ?_, ?_, trivial⟩ <;> (intro t; kernel_rfl)
theorem l49s6 : L49.Step C3 X3 6 L49.kids := by
 refine ⟨?_, ?_, ?_, ?_, ?_, ?_, ?_, ?_, ?_, ?_, ?_, ?_, trivial⟩ <;> (intro t; kernel_rfl)
theorem l49s7 : L49.Step C3 X3 7 L49.kids := by
 refine ⟨?_, ?_, ?_, ?_, ?_, ?_, ?_, ?_, ?_, ?_, ?_, ?_, trivial⟩ <;> (intro t; kernel_rfl)
theorem l49s8 : L49.Step C3 X3 8 L49.kids := by
 refine ⟨?_, ?_, ?_, ?_, ?_, ?_, ?_, ?_, ?_, ?_, ?_, ?_, trivial⟩ <;> (intro t; kernel_rfl)
theorem l49s9 : L49.Step C3 X3 9 L49.kids := by
 refine ⟨?_, ?_, ?_, ?_, ?_, ?_, ?_, ?_, ?_, ?_, ?_, ?_, trivial⟩ <;> (intro t; kernel_rfl)
theorem l49s10 : L49.Step C3 X3 10 L49.kids := by
 refine ⟨?_, ?_, ?_, ?_, ?_, ?_, ?_, ?_, ?_, ?_, ?_, ?_, trivial⟩ <;> (intro t; kernel_rfl)
theorem l49s11 : L49.Step C3 X3 11 L49.kids := by
 refine ⟨?_, ?_, ?_, ?_, ?_, ?_, ?_, ?_, ?_, ?_, ?_, ?_, trivial⟩ <;> (intro t; kernel_rfl)
theorem b67 : kOk C3 X3 T66 k67 16 = true := by kernel_rfl
theorem nseg7 : seg C3 X3 [12, 11, 10, 9, 8, 6, 5, 4, 2, 1] (nst 7 7 no6) (ntm 7 8) no7 = some (nst 7 8 no7) := by kernel_rfl
theorem nseg18 : seg C3 X3 [12, 11, 10, 9, 8, 6, 5, 4, 2, 1] (nst 8 5 no17) (ntm 8 6) no18 = some (nst 8 6 no18) := by kernel_rfl
theorem b73 : kOk C3 X3 T72 k73 16 = true := by kernel_rfl
theorem b10 : kOk C3 X3 T9 k10 16 = true := by kernel_rfl
theorem b25 : kOk C3 X3 T24 k25 16 = true := by kernel_rfl
theorem b40 : kOk C3 X3 T39 k40 16 = true := by kernel_rfl
theorem b55 : kOk C3 X3 T54 k55 16 = true := by kernel_rfl
theorem b113 : kOk C3 X3 T112 k113 16 = true := by kernel_rfl
theorem b21 : kOkG C3 X3 T20 373 13 16 60 k21 = true := by kernel_rfl
theorem b104 : kOk C3 X3 T103 k104 16 = true := by kernel_rfl
theorem b93 : kOk C3 X3 T92 k93 16 = true := by kernel_rfl
end Go.Gd
end
