/- DERIVED. Pure: checks of all sets of shards, of kind 1. No statement of the program is proved here. -/
import Derived.Test.YthapjdpkelihiaaGreatX09
set_option linter.unusedSimpArgs false
set_option linter.unusedVariables false
set_option linter.unusedSectionVars false
namespace Go.Proofs.YthapjdpkelihiaaGreat.Am
theorem QK:cB (fun m=>CE 1 (dA m)) 128=true:=by kernel_rfl
theorem QL:cB (fun m=>CE 1 (dA (m+128))) 128=true:=by kernel_rfl
end Go.Proofs.YthapjdpkelihiaaGreat.Am
