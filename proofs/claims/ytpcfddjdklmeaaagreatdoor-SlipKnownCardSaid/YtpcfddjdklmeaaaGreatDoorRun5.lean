/- A part of the proof of SlipKnown: no condition of its own. -/
import Derived.Test.YtpcfddjdklmeaaaGreatDoorPart6
import Derived.KernelRfl
noncomputable section
namespace Go.Gd
open Go Go.Gw Go.Conc Go.Proofs
def L42 : LL := mkLL k42 k42
theorem l42a : L42.start C3 X3 T41 373 = some (L42.pg, L42.F 0 L42.T0) := by kernel_rfl
theorem l42b : L42.okB = true := by kernel_rfl
theorem l42c : L42.fin C3 X3 T41 373 = true := by kernel_rfl
theorem l42s0 : L42.Step C3 X3 0 L42.kids := by
 refine ⟨?_, ?_, ?_, ?_, ?_, ?_, ?_, ?_, ?_, ?_, ?_, ?_, trivial⟩ <;> (intro t; kernel_rfl)
theorem l42s1 : L42.Step C3 X3 1 L42.kids := by
 refine ⟨?_, ?_, ?_, ?_, ?_, ?_, ?_, ?_, ?_, ?_, ?_, ?_, trivial⟩ <;> (intro t; kernel_rfl)
theorem l42s2 : L42.Step C3 X3 2 L42.kids := by
 refine ⟨?_, ?_, ?_, ?_, ?_, ?_, ?_, ?_, ?_, ?_, ?_, ?_, trivial⟩ <;> (intro t; kernel_rfl)
theorem l42s3 : L42.Step C3 X3 3 L42.kids := by
 refine ⟨?_, ?_, ?_, ?_, ?_, ?_, ?_, ?_, ?_, ?_, ?_, ?_, trivial⟩ <;> (intro t; kernel_rfl)
theorem l42s4 : L42.Step C3 X3 4 L42.kids := by
 refine ⟨?_, ?_, ?_, ?_, ?_, ?_, ?_, ?_, ?_, ?_, ?_, ?_, trivial⟩ <;> (intro t; kernel_rfl)
theorem l42s5 : L42.Step C3 X3 5 L42.kids := by
 refine ⟨?_, ?_, ?_, ?_, ?_, ?_, ?_, ?_, ?_, ?_, ?_, ?_, trivial⟩ <;> (intro t; kernel_rfl)
theorem l42s6 : L42.Step C3 X3 6 L42.kids := by
 refine ⟨?_, ?_, ?_, ?_, ?_, ?_, ?_, ?_, ?_, ?_, ?_, ?_, trivial⟩ <;> (intro t; kernel_rfl)
theorem l42s7 : L42.Step C3 X3 7 L42.kids := by
 refine ⟨?_, ?_, ?_, ?_, ?_, ?_, ?_, ?_, ?_, ?_, ?_, ?_, trivial⟩ <;> (intro t; kernel_rfl)
theorem l42s8 : L42.Step C3 X3 8 L42.kids := by
 refine ⟨?_, ?_, ?_, ?_, ?_, ?_, ?_, ?_, ?_, ?_, ?_, ?_, trivial⟩ <;> (intro t; kernel_rfl)
theorem l42s9 : L42.Step C3 X3 9 L42.kids := by
 refine ⟨?_, ?_, ?_, ?_, ?_, ?_, ?_, ?_, ?_, ?_, ?_, ?_, trivial⟩ <;> (intro t; kernel_rfl)
theorem l42s10 : L42.Step C3 X3 10 L42.kids := by
 refine ⟨?_, ?_, ?_, ?_, ?_, ?_, ?_, ?_, ?_, ?_, ?_, ?_, trivial⟩ <;> (intro t; kernel_rfl)
theorem l42s11 : L42.Step C3 X3 11 L42.kids := by
 refine ⟨?_, ?_, ?_, ?_, ?_, ?_, ?_, ?_, ?_, ?_, ?_, ?_, trivial⟩ <;> (intro t; kernel_rfl)
theorem b71 : kOk C3 X3 T70 k71 16 = true := by kernel_rfl
theorem nseg9 : seg C3 X3 [12, 11, 10, 9, 8, 6, 5, 4, 2, 1] (nst 7 9 no8) (ntm 7 10) no9 = some (nst 7 10 no9) := by kernel_rfl
theorem nseg20 : seg C3 X3 [12, 11, 10, 9, 8, 6, 5, 4, 2, 1] (nst 8 7 no19) (ntm 8 8) no20 = some (nst 8 8 no20) := by kernel_rfl
theorem b70 : kOk C3 X3 T69 k70 16 = true := by kernel_rfl
theorem b4 : kOk C3 X3 T3 k4 16 = true := by kernel_rfl
theorem b18 : kOk C3 X3 T17 k18 16 = true := by kernel_rfl
theorem b33 : kOk C3 X3 T32 k33 16 = true := by kernel_rfl
theorem b48 : kOk C3 X3 T47 k48 16 = true := by kernel_rfl
theorem b61 : kOk C3 X3 T60 k61 16 = true := by kernel_rfl
theorem b107 : kOk C3 X3 T106 k107 16 = true := by kernel_rfl
theorem b106 : kOk C3 X3 T105 k106 16 = true := by kernel_rfl
theorem b66 : kOk C3 X3 T65 k66 16 = true := by kernel_rfl
end Go.Gd
end
