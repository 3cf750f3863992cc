/- DERIVED. Pure: checks of the reference's rows, of kind 2. No statement of the program is proved here. -/
import Derived.Test.YthapjdpkelihiaaGreatX13
set_option linter.unusedSimpArgs false
set_option linter.unusedVariables false
set_option linter.unusedSectionVars false
namespace Go.Proofs.YthapjdpkelihiaaGreat.Am
theorem QQ:cB (fun m=>EV 2 (dA m)) 128=true:=by kernel_rfl
theorem QR:cB (fun m=>EV 2 (dA (m+128))) 128=true:=by kernel_rfl
end Go.Proofs.YthapjdpkelihiaaGreat.Am
