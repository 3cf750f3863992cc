/- DERIVED. What is true of what FnExactShelfUsed reaches. No statement of the program is proved here. -/
import Derived.Test.YtdnfojanjejdgaaGreatX22
set_option linter.unusedSimpArgs false
set_option linter.unusedVariables false
set_option linter.unusedSectionVars false
namespace Go.Proofs.YtdnfojanjejdgaaGreat.Am.FnExactShelfUsed
theorem hIn:Program.inPlace Tryz.pinned.checked.prog 4=Rows.fnExactShelfUsedRow.inPlace:=by kernel_rfl
theorem hUn:Program.unfollowed Tryz.pinned.checked.prog 4=Rows.fnExactShelfUsedRow.unfollowed:=by kernel_rfl
theorem hRe:Program.recurses Tryz.pinned.checked.prog 4=Rows.fnExactShelfUsedRow.recurses:=by kernel_rfl
theorem hVa:Program.varsNamed Tryz.pinned.checked.prog 4=Rows.fnExactShelfUsedRow.named:=by kernel_rfl
end Go.Proofs.YtdnfojanjejdgaaGreat.Am.FnExactShelfUsed
