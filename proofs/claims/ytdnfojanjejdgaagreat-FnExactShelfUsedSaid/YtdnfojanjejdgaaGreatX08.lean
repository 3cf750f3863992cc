/- DERIVED. Pure: the reference's rows begin somewhere; shards bear alike in both. No statement of the program is proved here. -/
import Derived.Test.YtdnfojanjejdgaaGreatX07
set_option linter.unusedSimpArgs false
set_option linter.unusedVariables false
set_option linter.unusedSectionVars false
namespace Go.Proofs.YtdnfojanjejdgaaGreat.Am
def F3 (k:Int) (m:Nat):Bool:=eJ (rwL k (eR m))&&(iQ 4 (cJ (rwL k (eR m)))&&(decide ((cJ (rwL k (eR m))).length≤4)&&((((cJ (rwL k (eR m))).length:Int)==4)==c7 k (flg (eR m)))))
theorem QS:cN (fun m=>F3 1 m) 128=true:=by kernel_rfl
theorem QT:cN (fun m=>F3 1 (m+128)) 128=true:=by kernel_rfl
theorem QU:cN (fun m=>F3 2 m) 128=true:=by kernel_rfl
theorem QV:cN (fun m=>F3 2 (m+128)) 128=true:=by kernel_rfl
theorem zI {k:Int} {c:List Bool} (hk:bet k 1 2=true) (hc:c.length=8):eJ (rwL k c)=true∧iQ 4 (cJ (rwL k c))=true∧(cJ (rwL k c)).length≤4∧(((cJ (rwL k c)).length:Int)==4)=c7 k (flg c):=by
 obtain⟨m,hm,rfl⟩:=tG c hc
 have key:F3 k m=true:=by
  rcases two hk with rfl|rfl
  ·by_cases h:m<128
   ·exact aX QS m h
   ·have:=aX QT (m-128) (by omega)
    rwa[show m-128+128=m from by omega]at this
  ·by_cases h:m<128
   ·exact aX QU m h
   ·have:=aX QV (m-128) (by omega)
    rwa[show m-128+128=m from by omega]at this
 simpa only[F3,Bool.and_eq_true,decide_eq_true_eq,beq_iff_eq]using key
end Go.Proofs.YtdnfojanjejdgaaGreat.Am
