/- The constants are those of the reference. No condition. -/
import Derived.Test.YtockdkalkelbcaaPFnExactConstantsx1
import Derived.Test.YtockdkalkelbcaaMath
namespace Go.Proofs.Ytockdkalkelbcaa.Pure
open Go.RowKit Go.Proofs.Ytockdkalkelbcaa.PFnExactConstants Go.Proofs.YtockdkalkelbcaaW.PrintWords Go.Proofs.YtockdkalkelbcaaW.PrintLast Go.Proofs.YtockdkalkelbcaaW.PrintMore Go.Proofs.Ytockdkalkelbcaa.Math
set_option linter.unusedVariables false
set_option linter.unusedSimpArgs false
theorem FnExactConstants : laws_FnExactConstants.Pure := by
  first | rfl | exact ⟨1, rfl⟩

end Go.Proofs.Ytockdkalkelbcaa.Pure
