/- DERIVED. Pure: checks of the reference's rows, of kind 1. No statement of the program is proved here. -/
import Derived.Test.YtdnfojanjejdgaaGreatX12
set_option linter.unusedSimpArgs false
set_option linter.unusedVariables false
set_option linter.unusedSectionVars false
namespace Go.Proofs.YtdnfojanjejdgaaGreat.Am
theorem R0:cN (fun m=>F4 1 (eR m)) 128=true:=by kernel_rfl
theorem R4:cN (fun m=>F4 1 (eR (m+128))) 128=true:=by kernel_rfl
end Go.Proofs.YtdnfojanjejdgaaGreat.Am
