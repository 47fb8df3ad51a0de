/- A part of the proof of SlipKnown: no condition of its own. -/
import Derived.Test.YtpcfddjdklmeaaaGreatDoorPart6
import Derived.KernelRfl
noncomputable section
namespace Go.Gd
open Go Go.Gw Go.Conc Go.Proofs
def L45 : LL := mkLL k42 k45
theorem l45a : L45.start C3 X3 T44 373 = some (L45.pg, L45.F 0 L45.T0) := by kernel_rfl
theorem l45b : L45.okB = true := by kernel_rfl
theorem l45c : L45.fin C3 X3 T44 373 = true := by kernel_rfl
theorem l45s0 : L45.Step C3 X3 0 L45.kids := by
 refine ⟨?_, ?_, ?_, ?_, ?_, ?_, ?_, ?_, ?_, ?_, ?_, ?_, trivial⟩ <;> (intro t; kernel_rfl)
theorem l45s1 : L45.Step C3 X3 1 L45.kids := by
 refine ⟨?_, ?_, ?_, ?_, ?_, ?_, ?_, ?_, ?_, ?_, ?_, ?_, trivial⟩ <;> (intro t; kernel_rfl)
theorem l45s2 : L45.Step C3 X3 2 L45.kids := by
 refine ⟨?_, ?_, ?_, ?_, ?_, ?_, ?_, ?_, ?_, ?_, ?_, ?_, trivial⟩ <;> (intro t; kernel_rfl)
theorem l45s3 : L45.Step C3 X3 3 L45.kids := by
 refine ⟨?_, ?_, ?_, ?_, ?_, ?_, ?_, ?_, ?_, ?_, ?_, ?_, trivial⟩ <;> (intro t; kernel_rfl)
theorem l45s4 : L45.Step C3 X3 4 L45.kids := by
 refine ⟨?_, ?_, ?_, ?_, ?_, ?_, ?_, ?_, ?_, ?_, ?_, ?_, trivial⟩ <;> (intro t; kernel_rfl)
theorem l45s5 : L45.Step C3 X3 5 L45.kids := by
 refine ⟨?_, ?_, ?_, ?_, ?_, ?_, ?_, ?_, ?_, ?_, ?_, ?_, trivial⟩ <;> (intro t; kernel_rfl)
theorem l45s6 : L45.Step C3 X3 6 L45.kids := by
 refine ⟨?_, ?_, ?_, ?_, ?_, ?_, ?_, ?_, ?_, ?_, ?_, ?_, trivial⟩ <;> (intro t; kernel_rfl)
theorem l45s7 : L45.Step C3 X3 7 L45.kids := by
 refine ⟨?_, ?_, ?_, ?_, ?_, ?_, ?_, ?_, ?_, ?_, ?_, ?_, trivial⟩ <;> (intro t; kernel_rfl)
theorem l45s8 : L45.Step C3 X3 8 L45.kids := by
 refine ⟨?_, ?_, ?_, ?_, ?_, ?_, ?_, ?_, ?_, ?_, ?_, ?_, trivial⟩ <;> (intro t; kernel_rfl)
theorem l45s9 : L45.Step C3 X3 9 L45.kids := by
 refine ⟨?_, ?_, ?_, ?_, ?_, ?_, ?_, ?_, ?_, ?_, ?_, ?_, trivial⟩ <;> (intro t; kernel_rfl)
theorem l45s10 : L45.Step C3 X3 10 L45.kids := by
 refine ⟨?_, ?_, ?_, ?_, ?_, ?_, ?_, ?_, ?_, ?_, ?_, ?_, trivial⟩ <;> (intro t; kernel_rfl)
theorem l45s11 : L45.Step C3 X3 11 L45.kids := by
 refine ⟨?_, ?_, ?_, ?_, ?_, ?_, ?_, ?_, ?_, ?_, ?_, ?_, trivial⟩ <;> (intro t; kernel_rfl)
theorem b85 : kOk C3 X3 T84 k85 16 = true := by kernel_rfl
theorem nseg8 : seg C3 X3 [12, 11, 10, 9, 8, 6, 5, 4, 2, 1] (nst 7 8 no7) (ntm 7 9) no8 = some (nst 7 9 no8) := by kernel_rfl
theorem nseg19 : seg C3 X3 [12, 11, 10, 9, 8, 6, 5, 4, 2, 1] (nst 8 6 no18) (ntm 8 7) no19 = some (nst 8 7 no19) := by kernel_rfl
theorem b76 : kOk C3 X3 T75 k76 16 = true := by kernel_rfl
theorem b5 : kOk C3 X3 T4 k5 16 = true := by kernel_rfl
theorem b19 : kOk C3 X3 T18 k19 16 = true := by kernel_rfl
theorem b34 : kOk C3 X3 T33 k34 16 = true := by kernel_rfl
theorem b50 : kOk C3 X3 T49 k50 16 = true := by kernel_rfl
theorem b62 : kOk C3 X3 T61 k62 16 = true := by kernel_rfl
theorem b9 : kOkG C3 X3 T8 373 13 16 60 k9 = true := by kernel_rfl
theorem b109 : kOk C3 X3 T108 k109 16 = true := by kernel_rfl
theorem b96 : kOk C3 X3 T95 k96 16 = true := by kernel_rfl
end Go.Gd
end
