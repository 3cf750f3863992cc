/- DERIVED. What is true of the row of FnExactWorldOk. No statement of the program is proved here. -/
import Derived.Test.YtdnfojanjejdgaaGreatX23
set_option linter.unusedSimpArgs false
set_option linter.unusedVariables false
set_option linter.unusedSectionVars false
set_option linter.defProp false
namespace Go.Proofs.YtdnfojanjejdgaaGreat.Am.FnExactWorldOk
theorem hNm:Tryz.pinned.checked.prog.funcNamed Rows.fnExactWorldOkRow.func=some 5:=by kernel_rfl
theorem hJo:joinedFacts Tryz.pinned.checked.prog 5 Tryz.f5 Rows.fnExactWorldOkSpec Rows.fnExactWorldOkRow=true:=by
 unfold joinedFacts
 rw[Am.FnExactWorldOk.hIn,Am.FnExactWorldOk.hUn,Am.FnExactWorldOk.hRe,Am.FnExactWorldOk.hVa,Am.aG7,Am.aG6,Am.aEO,Am.aEN,Am.aG8]
 kernel_rfl
end Go.Proofs.YtdnfojanjejdgaaGreat.Am.FnExactWorldOk
