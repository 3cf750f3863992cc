/- DERIVED. Pure: checks of the reference's rows, of kind 1. No statement of the program is proved here. -/
import Derived.Test.YthapjdpkelihiaaGreatX12
set_option linter.unusedSimpArgs false
set_option linter.unusedVariables false
set_option linter.unusedSectionVars false
namespace Go.Proofs.YthapjdpkelihiaaGreat.Am
theorem QO:cB (fun m=>EV 1 (dA m)) 128=true:=by kernel_rfl
theorem QP:cB (fun m=>EV 1 (dA (m+128))) 128=true:=by kernel_rfl
end Go.Proofs.YthapjdpkelihiaaGreat.Am
