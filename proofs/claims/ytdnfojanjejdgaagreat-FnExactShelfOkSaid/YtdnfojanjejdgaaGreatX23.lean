/- DERIVED. What is true of what FnExactShelfOk reaches. No statement of the program is proved here. -/
import Derived.Test.YtdnfojanjejdgaaGreatX22
set_option linter.unusedSimpArgs false
set_option linter.unusedVariables false
set_option linter.unusedSectionVars false
namespace Go.Proofs.YtdnfojanjejdgaaGreat.Am.FnExactShelfOk
theorem hIn:Program.inPlace Tryz.pinned.checked.prog 3=Rows.fnExactShelfOkRow.inPlace:=by kernel_rfl
theorem hUn:Program.unfollowed Tryz.pinned.checked.prog 3=Rows.fnExactShelfOkRow.unfollowed:=by kernel_rfl
theorem hRe:Program.recurses Tryz.pinned.checked.prog 3=Rows.fnExactShelfOkRow.recurses:=by kernel_rfl
theorem hVa:Program.varsNamed Tryz.pinned.checked.prog 3=Rows.fnExactShelfOkRow.named:=by kernel_rfl
end Go.Proofs.YtdnfojanjejdgaaGreat.Am.FnExactShelfOk
