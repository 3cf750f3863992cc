/- DERIVED. Pure: checks of the reference's rows, of kind 2. No statement of the program is proved here. -/
import Derived.Test.YtdnfojanjejdgaaGreatX12
set_option linter.unusedSimpArgs false
set_option linter.unusedVariables false
set_option linter.unusedSectionVars false
set_option linter.defProp false
namespace Go.Proofs.YtdnfojanjejdgaaGreat.Am
theorem U6:cN (fun m=>HF 2 (eQ m)) 128=true:=by kernel_rfl
theorem U7:cN (fun m=>HF 2 (eQ (m+128))) 128=true:=by kernel_rfl
end Go.Proofs.YtdnfojanjejdgaaGreat.Am
