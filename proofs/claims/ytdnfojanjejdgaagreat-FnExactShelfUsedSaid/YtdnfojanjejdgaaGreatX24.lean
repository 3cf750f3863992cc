/- DERIVED. What is true of the row of FnExactShelfUsed. No statement of the program is proved here. -/
import Derived.Test.YtdnfojanjejdgaaGreatX23
set_option linter.unusedSimpArgs false
set_option linter.unusedVariables false
set_option linter.unusedSectionVars false
namespace Go.Proofs.YtdnfojanjejdgaaGreat.Am.FnExactShelfUsed
theorem hNm:Tryz.pinned.checked.prog.funcNamed Rows.fnExactShelfUsedRow.func=some 4:=by kernel_rfl
theorem hJo:joinedFacts Tryz.pinned.checked.prog 4 Tryz.f4 Rows.fnExactShelfUsedSpec Rows.fnExactShelfUsedRow=true:=by
 unfold joinedFacts
 rw[Am.FnExactShelfUsed.hIn,Am.FnExactShelfUsed.hUn,Am.FnExactShelfUsed.hRe,Am.FnExactShelfUsed.hVa,Am.aB8,Am.aB7,Am.aAB,Am.aAA,Am.aB9]
 kernel_rfl
end Go.Proofs.YtdnfojanjejdgaaGreat.Am.FnExactShelfUsed
