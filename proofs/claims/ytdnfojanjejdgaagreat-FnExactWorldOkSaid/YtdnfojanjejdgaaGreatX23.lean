/- DERIVED. What is true of what FnExactWorldOk reaches. No statement of the program is proved here. -/
import Derived.Test.YtdnfojanjejdgaaGreatX22
set_option linter.unusedSimpArgs false
set_option linter.unusedVariables false
set_option linter.unusedSectionVars false
set_option linter.defProp false
namespace Go.Proofs.YtdnfojanjejdgaaGreat.Am.FnExactWorldOk
theorem hIn:Program.inPlace Tryz.pinned.checked.prog 5=Rows.fnExactWorldOkRow.inPlace:=by kernel_rfl
theorem hUn:Program.unfollowed Tryz.pinned.checked.prog 5=Rows.fnExactWorldOkRow.unfollowed:=by kernel_rfl
theorem hRe:Program.recurses Tryz.pinned.checked.prog 5=Rows.fnExactWorldOkRow.recurses:=by kernel_rfl
theorem hVa:Program.varsNamed Tryz.pinned.checked.prog 5=Rows.fnExactWorldOkRow.named:=by kernel_rfl
end Go.Proofs.YtdnfojanjejdgaaGreat.Am.FnExactWorldOk
