/- DERIVED. What is true of the whole program, once for all rows. No statement of the program is proved here. -/
import Derived.Test.YtdnfojanjejdgaaGreatX19
set_option linter.unusedSimpArgs false
set_option linter.unusedVariables false
set_option linter.unusedSectionVars false
set_option linter.defProp false
namespace Go.Proofs.YtdnfojanjejdgaaGreat.Am
theorem aH8:Program.liftsFinal Tryz.pinned.checked.prog=Rows.fnExactShelfOkRow.lifted:=by kernel_rfl
theorem aH7:Program.plainKeys Tryz.pinned.checked.prog=Rows.fnExactShelfOkRow.plainKeys:=by kernel_rfl
theorem aFF:Program.stopsHeard Tryz.pinned.checked.prog=true:=by kernel_rfl
theorem aFE:Program.mayEnter Tryz.pinned.checked.prog=true:=by kernel_rfl
end Go.Proofs.YtdnfojanjejdgaaGreat.Am
