/- DERIVED. What is true of the row of FnExactShelfGet. No statement of the program is proved here. -/
import Derived.Test.YtdnfojanjejdgaaGreatX23
set_option linter.unusedSimpArgs false
set_option linter.unusedVariables false
set_option linter.unusedSectionVars false
set_option linter.defProp false
namespace Go.Proofs.YtdnfojanjejdgaaGreat.Am.FnExactShelfGet
theorem hNm:Tryz.pinned.checked.prog.funcNamed Rows.fnExactShelfGetRow.func=some 6:=by kernel_rfl
theorem hJo:joinedFacts Tryz.pinned.checked.prog 6 Tryz.f6 Rows.fnExactShelfGetSpec Rows.fnExactShelfGetRow=true:=by
 unfold joinedFacts
 rw[Am.FnExactShelfGet.hIn,Am.FnExactShelfGet.hUn,Am.FnExactShelfGet.hRe,Am.FnExactShelfGet.hVa,Am.aH8,Am.aH7,Am.aFF,Am.aFE,Am.aH9]
 kernel_rfl
end Go.Proofs.YtdnfojanjejdgaaGreat.Am.FnExactShelfGet
