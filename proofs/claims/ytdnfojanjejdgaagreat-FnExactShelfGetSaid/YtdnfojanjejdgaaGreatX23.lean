/- DERIVED. What is true of what FnExactShelfGet reaches. No statement of the program is proved here. -/
import Derived.Test.YtdnfojanjejdgaaGreatX22
set_option linter.unusedSimpArgs false
set_option linter.unusedVariables false
set_option linter.unusedSectionVars false
set_option linter.defProp false
namespace Go.Proofs.YtdnfojanjejdgaaGreat.Am.FnExactShelfGet
theorem hIn:Program.inPlace Tryz.pinned.checked.prog 6=Rows.fnExactShelfGetRow.inPlace:=by kernel_rfl
theorem hUn:Program.unfollowed Tryz.pinned.checked.prog 6=Rows.fnExactShelfGetRow.unfollowed:=by kernel_rfl
theorem hRe:Program.recurses Tryz.pinned.checked.prog 6=Rows.fnExactShelfGetRow.recurses:=by kernel_rfl
theorem hVa:Program.varsNamed Tryz.pinned.checked.prog 6=Rows.fnExactShelfGetRow.named:=by kernel_rfl
end Go.Proofs.YtdnfojanjejdgaaGreat.Am.FnExactShelfGet
