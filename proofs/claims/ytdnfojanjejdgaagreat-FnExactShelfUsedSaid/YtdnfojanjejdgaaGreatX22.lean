/- DERIVED. What is true of the whole program, part. No statement of the program is proved here. -/
import Derived.Test.YtdnfojanjejdgaaGreatX21
set_option linter.unusedSimpArgs false
set_option linter.unusedVariables false
set_option linter.unusedSectionVars false
namespace Go.Proofs.YtdnfojanjejdgaaGreat.Am
theorem aB9:Program.make Tryz.pinned.checked.prog=some Rows.fnExactShelfOkRow.make:=by kernel_rfl
end Go.Proofs.YtdnfojanjejdgaaGreat.Am
