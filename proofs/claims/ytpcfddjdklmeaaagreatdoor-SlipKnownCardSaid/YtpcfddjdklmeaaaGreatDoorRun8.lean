/- A part of the proof of SlipKnown: no condition of its own. -/
import Derived.Test.YtpcfddjdklmeaaaGreatDoorPart6
import Derived.KernelRfl
noncomputable section
namespace Go.Gd
open Go Go.Gw Go.Conc Go.Proofs
def L52 : LL := mkLL k42 k52
theorem l52a : L52.start C3 X3 T51 373 = some (L52.pg, L52.F 0 L52.T0) := by kernel_rfl
theorem l52b : L52.okB = true := by kernel_rfl
theorem l52c : L52.fin C3 X3 T51 373 = true := by kernel_rfl
theorem l52s0 : L52.Step C3 X3 0 L52.kids := by
 refine ⟨?_, ?_, ?_, ?_, ?_, ?_, ?_, ?_, ?_, ?_, ?_, ?_, trivial⟩ <;> (intro t; kernel_rfl)
theorem l52s1 : L52.Step C3 X3 1 L52.kids := by
 refine ⟨?_, ?_, ?_, ?_, ?_, ?_, ?_, ?_, ?_, ?_, ?_, ?_, trivial⟩ <;> (intro t; kernel_rfl)
theorem l52s2 : L52.Step C3 X3 2 L52.kids := by
 refine ⟨?_, ?_, ?_, ?_, ?_, ?_, ?_, ?_, ?_, ?_, ?_, ?_, trivial⟩ <;> (intro t; kernel_rfl)
theorem l52s3 : L52.Step C3 X3 3 L52.kids := by
 refine ⟨?_, ?_, ?_, ?_, ?_, ?_, ?_, ?_, ?_, ?_, ?_, ?_, trivial⟩ <;> (intro t; kernel_rfl)
theorem l52s4 : L52.Step C3 X3 4 L52.kids := by
 refine ⟨?_, ?_, ?_, ?_, ?_, ?_, ?_, ?_, ?_, ?_, ?_, ?_, trivial⟩ <;> (intro t; kernel_rfl)
theorem l52s5 : L52.Step C3 X3 5 L52.kids := by
 refine ⟨?_, ?_, ?_, ?_, ?_, ?_, ?_, ?_, ?_, ?_, ?_, ?_, trivial⟩ <;> (intro t; kernel_rfl)
theorem l52s6 : L52.Step C3 X3 6 L52.kids := by
 refine ⟨?_, ?_, ?_, ?_, ?_, ?_, ?_, ?_, ?_, ?_, ?_, ?_, trivial⟩ <;> (intro t; kernel_rfl)
theorem l52s7 : L52.Step C3 X3 7 L52.kids := by
 refine ⟨?_, ?_, ?_, ?_, ?_, ?_, ?_, ?_, ?_, ?_, ?_, ?_, trivial⟩ <;> (intro t; kernel_rfl)
theorem l52s8 : L52.Step C3 X3 8 L52.kids := by
 refine ⟨?_, ?_, ?_, ?_, ?_, ?_, ?_, ?_, ?_, ?_, ?_, ?_, trivial⟩ <;> (intro t; kernel_rfl)
theorem l52s9 : L52.Step C3 X3 9 L52.kids := by
 refine ⟨?_, ?_, ?_, ?_, ?_, ?_, ?_, ?_, ?_, ?_, ?_, ?_, trivial⟩ <;> (intro t; kernel_rfl)
theorem l52s10 : L52.Step C3 X3 10 L52.kids := by
 refine ⟨?_, ?_, ?_, ?_, ?_, ?_, ?_, ?_, ?_, ?_, ?_, ?_, trivial⟩ <;> (intro t; kernel_rfl)
theorem l52s11 : L52.Step C3 X3 11 L52.kids := by
 refine ⟨?_, ?_, ?_, ?_, ?_, ?_, ?_, ?_, ?_, ?_, ?_, ?_, trivial⟩ <;> (intro t; kernel_rfl)
theorem b97 : kOk C3 X3 T96 k97 16 = true := by kernel_rfl
theorem nseg6 : seg C3 X3 [12, 11, 10, 9, 8, 6, 5, 4, 2, 1] (nst 7 6 no5) (ntm 7 7) no6 = some (nst 7 7 no6) := by kernel_rfl
theorem nseg17 : seg C3 X3 [12, 11, 10, 9, 8, 6, 5, 4, 2, 1] (nst 8 4 no16) (ntm 8 5) no17 = some (nst 8 5 no17) := by kernel_rfl
theorem b75 : kOk C3 X3 T74 k75 16 = true := by kernel_rfl
theorem b7 : kOk C3 X3 T6 k7 16 = true := by kernel_rfl
theorem b22 : kOk C3 X3 T21 k22 16 = true := by kernel_rfl
theorem b37 : kOk C3 X3 T36 k37 16 = true := by kernel_rfl
theorem b53 : kOk C3 X3 T52 k53 16 = true := by kernel_rfl
theorem b111 : kOk C3 X3 T110 k111 16 = true := by kernel_rfl
theorem b24 : kOkG C3 X3 T23 373 13 16 60 k24 = true := by kernel_rfl
theorem nend : endOk C3 k1 (runL C3 X3 [9] (nst 8 13 no25)) = true := by kernel_rfl
theorem b95 : kOk C3 X3 T94 k95 16 = true := by kernel_rfl
theorem b94 : kOk C3 X3 T93 k94 16 = true := by kernel_rfl
end Go.Gd
end
