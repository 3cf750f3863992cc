/- DERIVED. What is true of the whole program, part. No statement of the program is proved here. -/
import Derived.Test.YtdnfojanjejdgaaGreatX20
set_option linter.unusedSimpArgs false
set_option linter.unusedVariables false
set_option linter.unusedSectionVars false
set_option linter.defProp false
namespace Go.Proofs.YtdnfojanjejdgaaGreat.Am
theorem aH9:Program.make Tryz.pinned.checked.prog=some Rows.fnExactShelfOkRow.make:=by kernel_rfl
end Go.Proofs.YtdnfojanjejdgaaGreat.Am
