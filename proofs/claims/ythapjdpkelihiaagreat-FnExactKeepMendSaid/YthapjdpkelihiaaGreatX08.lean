/- DERIVED. Pure: the reference's rows begin somewhere; shards bear alike in both. No statement of the program is proved here. -/
import Derived.Test.YthapjdpkelihiaaGreatX07
set_option linter.unusedSimpArgs false
set_option linter.unusedVariables false
set_option linter.unusedSectionVars false
namespace Go.Proofs.YthapjdpkelihiaaGreat.Am
def EG (k:Int) (m:Nat):Bool:=eL (rwL k (cZ m))&&(iU 4 (cJ (rwL k (cZ m)))&&(decide ((cJ (rwL k (cZ m))).length≤4)&&((((cJ (rwL k (cZ m))).length:Int)==4)==bO k (flg (cZ m)))))
theorem PY:c7 (fun m=>EG 1 m) 128=true:=by kernel_rfl
theorem PZ:c7 (fun m=>EG 1 (m+128)) 128=true:=by kernel_rfl
theorem Q0:c7 (fun m=>EG 2 m) 128=true:=by kernel_rfl
theorem Q1:c7 (fun m=>EG 2 (m+128)) 128=true:=by kernel_rfl
theorem yS {k:Int} {c:List Bool} (hk:bet k 1 2=true) (hc:c.length=8):eL (rwL k c)=true∧iU 4 (cJ (rwL k c))=true∧(cJ (rwL k c)).length≤4∧(((cJ (rwL k c)).length:Int)==4)=bO k (flg c):=by
 obtain⟨m,hm,rfl⟩:=nJ c hc
 have key:EG k m=true:=by
  rcases two hk with rfl|rfl
  ·by_cases h:m<128
   ·exact aV PY m h
   ·have:=aV PZ (m-128) (by omega)
    rwa[show m-128+128=m from by omega]at this
  ·by_cases h:m<128
   ·exact aV Q0 m h
   ·have:=aV Q1 (m-128) (by omega)
    rwa[show m-128+128=m from by omega]at this
 simpa only[EG,Bool.and_eq_true,decide_eq_true_eq,beq_iff_eq]using key
end Go.Proofs.YthapjdpkelihiaaGreat.Am
