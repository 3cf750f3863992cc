/- DERIVED. Pure: checks of all sets of shards, of kind 2. No statement of the program is proved here. -/
import Derived.Test.YtdnfojanjejdgaaGreatX10
set_option linter.unusedSimpArgs false
set_option linter.unusedVariables false
set_option linter.unusedSectionVars false
namespace Go.Proofs.YtdnfojanjejdgaaGreat.Am
theorem QY:cN (fun m=>CP 2 (eR m)) 128=true:=by kernel_rfl
theorem QZ:cN (fun m=>CP 2 (eR (m+128))) 128=true:=by kernel_rfl
end Go.Proofs.YtdnfojanjejdgaaGreat.Am
