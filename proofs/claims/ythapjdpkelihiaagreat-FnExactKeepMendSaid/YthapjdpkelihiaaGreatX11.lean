/- DERIVED. Pure: checks of all sets of shards, of kind 2. No statement of the program is proved here. -/
import Derived.Test.YthapjdpkelihiaaGreatX10
set_option linter.unusedSimpArgs false
set_option linter.unusedVariables false
set_option linter.unusedSectionVars false
namespace Go.Proofs.YthapjdpkelihiaaGreat.Am
theorem Q4:c7 (fun m=>C1 2 (cZ m)) 128=true:=by kernel_rfl
theorem Q5:c7 (fun m=>C1 2 (cZ (m+128))) 128=true:=by kernel_rfl
end Go.Proofs.YthapjdpkelihiaaGreat.Am
