/- A part of the proof of SlipKnown: no condition of its own. -/
import Derived.Test.YtpcfddjdklmeaaaGreatDoorPart6
import Derived.KernelRfl
noncomputable section
namespace Go.Gd
open Go Go.Gw Go.Conc Go.Proofs
def L100 : LL := mkLL k42 k100
theorem l100a : L100.start C3 X3 T99 373 = some (L100.pg, L100.F 0 L100.T0) := by kernel_rfl
theorem l100b : L100.okB = true := by kernel_rfl
theorem l100c : L100.fin C3 X3 T99 373 = true := by kernel_rfl
theorem l100s0 : L100.Step C3 X3 0 L100.kids := by
 refine ⟨?_, ?_, ?_, ?_, ?_, ?_, ?_, ?_, ?_, ?_, ?_, ?_, trivial⟩ <;> (intro t; kernel_rfl)
theorem l100s1 : L100.Step C3 X3 1 L100.kids := by
 refine ⟨?_, ?_, ?_, ?_, ?_, ?_, ?_, ?_, ?_, ?_, ?_, ?_, trivial⟩ <;> (intro t; kernel_rfl)
theorem l100s2 : L100.Step C3 X3 2 L100.kids := by
 refine ⟨?_, ?_, ?_, ?_, ?_, ?_, ?_, ?_, ?_, ?_, ?_, ?_, trivial⟩ <;> (intro t; kernel_rfl)
theorem l100s3 : L100.Step C3 X3 3 L100.kids := by
 refine ⟨?_, ?_, ?_, ?_, ?_, ?_, ?_, ?_, ?_, ?_, ?_, ?_, trivial⟩ <;> (intro t; kernel_rfl)
theorem l100s4 : L100.Step C3 X3 4 L100.kids := by
 refine ⟨?_, ?_, ?_, ?_, ?_, ?_, ?_, ?_, ?_, ?_, ?_, ?_, trivial⟩ <;> (intro t; kernel_rfl)
theorem l100s5 : L100.Step C3 X3 5 L100.kids := by
 refine ⟨?_, ?_, ?_, ?_, ?_, ?_, ?_, ?_, ?_, ?_, ?_, ?_, trivial⟩ <;> (intro t; kernel_rfl)
theorem l100s6 : L100.Step C3 X3 6 L100.kids := by
 refine ⟨?_, ?_, ?_, ?_, ?_, ?_, ?_, ?_, ?_, ?_, ?_, ?_, trivial⟩ <;> (intro t; kernel_rfl)
theorem l100s7 : L100.Step C3 X3 7 L100.kids := by
 refine ⟨?_, ?_, ?_, ?_, ?_, ?_, ?_, ?_, ?_, ?_, ?_, ?_, trivial⟩ <;> (intro t; kernel_rfl)
theorem l100s8 : L100.Step C3 X3 8 L100.kids := by
 refine ⟨?_, ?_, ?_, ?_, ?_, ?_, ?_, ?_, ?_, ?_, ?_, ?_, trivial⟩ <;> (intro t; kernel_rfl)
theorem l100s9 : L100.Step C3 X3 9 L100.kids := by
 refine ⟨?_, ?_, ?_, ?_, ?_, ?_, ?_, ?_, ?_, ?_, ?_, ?_, trivial⟩ <;> (intro t; kernel_rfl)
theorem l100s10 : L100.Step C3 X3 10 L100.kids := by
 refine ⟨?_, ?_, ?_, ?_, ?_, ?_, ?_, ?_, ?_, ?_, ?_, ?_, trivial⟩ <;> (intro t; kernel_rfl)
theorem l100s11 : L100.Step C3 X3 11 L100.kids := by
 refine ⟨?_, ?_, ?_, ?_, ?_, ?_, ?_, ?_, ?_, ?_, ?_, ?_, trivial⟩ <;> (intro t; kernel_rfl)
theorem b72 : kOk C3 X3 T71 k72 16 = true := by kernel_rfl
theorem nseg5 : seg C3 X3 [12, 11, 10, 9, 8, 6, 5, 4, 2, 1] (nst 7 5 no4) (ntm 7 6) no5 = some (nst 7 6 no5) := by kernel_rfl
theorem nseg16 : seg C3 X3 [12, 11, 10, 9, 8, 6, 5, 4, 2, 1] (nst 8 3 no15) (ntm 8 4) no16 = some (nst 8 4 no16) := by kernel_rfl
theorem b68 : kOk C3 X3 T67 k68 16 = true := by kernel_rfl
theorem b8 : kOk C3 X3 T7 k8 16 = true := by kernel_rfl
theorem b23 : kOk C3 X3 T22 k23 16 = true := by kernel_rfl
theorem b39 : kOk C3 X3 T38 k39 16 = true := by kernel_rfl
theorem b54 : kOk C3 X3 T53 k54 16 = true := by kernel_rfl
theorem b115 : kOk C3 X3 T114 k115 16 = true := by kernel_rfl
theorem b16 : kOkG C3 X3 T15 373 13 16 60 k16 = true := by kernel_rfl
theorem b105 : kOk C3 X3 T104 k105 16 = true := by kernel_rfl
theorem b91 : kOk C3 X3 T90 k91 16 = true := by kernel_rfl
theorem b92 : kOk C3 X3 T91 k92 16 = true := by kernel_rfl
end Go.Gd
end
