/- DERIVED. Pure: checks of all sets of shards, of kind 2. No statement of the program is proved here. -/
import Derived.Test.YtdnfojanjejdgaaGreatX09
set_option linter.unusedSimpArgs false
set_option linter.unusedVariables false
set_option linter.unusedSectionVars false
set_option linter.defProp false
namespace Go.Proofs.YtdnfojanjejdgaaGreat.Am
theorem U2:cN (fun m=>E9 2 (eQ m)) 128=true:=by kernel_rfl
theorem U3:cN (fun m=>E9 2 (eQ (m+128))) 128=true:=by kernel_rfl
end Go.Proofs.YtdnfojanjejdgaaGreat.Am
