/- DERIVED. What is true of the row of FnExactShelfOk. No statement of the program is proved here. -/
import Derived.Test.YtdnfojanjejdgaaGreatX23
set_option linter.unusedSimpArgs false
set_option linter.unusedVariables false
set_option linter.unusedSectionVars false
namespace Go.Proofs.YtdnfojanjejdgaaGreat.Am.FnExactShelfOk
theorem hNm:Tryz.pinned.checked.prog.funcNamed Rows.fnExactShelfOkRow.func=some 3:=by kernel_rfl
theorem hJo:joinedFacts Tryz.pinned.checked.prog 3 Tryz.f3 Rows.fnExactShelfOkSpec Rows.fnExactShelfOkRow=true:=by
 unfold joinedFacts
 rw[Am.FnExactShelfOk.hIn,Am.FnExactShelfOk.hUn,Am.FnExactShelfOk.hRe,Am.FnExactShelfOk.hVa,Am.aB8,Am.aB7,Am.aAB,Am.aAA,Am.aB9]
 kernel_rfl
end Go.Proofs.YtdnfojanjejdgaaGreat.Am.FnExactShelfOk
