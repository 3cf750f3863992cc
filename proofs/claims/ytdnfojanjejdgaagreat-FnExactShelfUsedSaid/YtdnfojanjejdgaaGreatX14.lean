/- DERIVED. Pure: checks of the reference's rows, of kind 2. No statement of the program is proved here. -/
import Derived.Test.YtdnfojanjejdgaaGreatX13
set_option linter.unusedSimpArgs false
set_option linter.unusedVariables false
set_option linter.unusedSectionVars false
namespace Go.Proofs.YtdnfojanjejdgaaGreat.Am
theorem R5:cN (fun m=>F4 2 (eR m)) 128=true:=by kernel_rfl
theorem R6:cN (fun m=>F4 2 (eR (m+128))) 128=true:=by kernel_rfl
end Go.Proofs.YtdnfojanjejdgaaGreat.Am
