/- DERIVED. Pure: checks of all sets of shards, of kind 1. No statement of the program is proved here. -/
import Derived.Test.YthapjdpkelihiaaGreatX09
set_option linter.unusedSimpArgs false
set_option linter.unusedVariables false
set_option linter.unusedSectionVars false
namespace Go.Proofs.YthapjdpkelihiaaGreat.Am
theorem Q2:c7 (fun m=>C1 1 (cZ m)) 128=true:=by kernel_rfl
theorem Q3:c7 (fun m=>C1 1 (cZ (m+128))) 128=true:=by kernel_rfl
end Go.Proofs.YthapjdpkelihiaaGreat.Am
