/- DERIVED. What is true of the whole program, once for all rows. No statement of the program is proved here. -/
import Derived.Test.YtdnfojanjejdgaaGreatX20
set_option linter.unusedSimpArgs false
set_option linter.unusedVariables false
set_option linter.unusedSectionVars false
namespace Go.Proofs.YtdnfojanjejdgaaGreat.Am
theorem aB8:Program.liftsFinal Tryz.pinned.checked.prog=Rows.fnExactShelfOkRow.lifted:=by kernel_rfl
theorem aB7:Program.plainKeys Tryz.pinned.checked.prog=Rows.fnExactShelfOkRow.plainKeys:=by kernel_rfl
theorem aAB:Program.stopsHeard Tryz.pinned.checked.prog=true:=by kernel_rfl
theorem aAA:Program.mayEnter Tryz.pinned.checked.prog=true:=by kernel_rfl
end Go.Proofs.YtdnfojanjejdgaaGreat.Am
