/- DERIVED. Pure: the reference's rows begin somewhere; shards bear alike in both. No statement of the program is proved here. -/
import Derived.Test.YtdnfojanjejdgaaGreatX06
set_option linter.unusedSimpArgs false
set_option linter.unusedVariables false
set_option linter.unusedSectionVars false
set_option linter.defProp false
namespace Go.Proofs.YtdnfojanjejdgaaGreat.Am
def HE (k:Int) (m:Nat):Bool:=eA (rwL k (eQ m))&&(iG 4 (cP (rwL k (eQ m)))&&(decide ((cP (rwL k (eQ m))).length≤4)&&((((cP (rwL k (eQ m))).length:Int)==4)==c8 k (flg (eQ m)))))
theorem TW:cN (fun m=>HE 1 m) 128=true:=by kernel_rfl
theorem TX:cN (fun m=>HE 1 (m+128)) 128=true:=by kernel_rfl
theorem TY:cN (fun m=>HE 2 m) 128=true:=by kernel_rfl
theorem TZ:cN (fun m=>HE 2 (m+128)) 128=true:=by kernel_rfl
theorem AS {k:Int} {c:List Bool} (hk:bet k 1 2=true) (hc:c.length=8):eA (rwL k c)=true∧iG 4 (cP (rwL k c))=true∧(cP (rwL k c)).length≤4∧(((cP (rwL k c)).length:Int)==4)=c8 k (flg c):=by
 obtain⟨m,hm,rfl⟩:=u6 c hc
 have key:HE k m=true:=by
  rcases two hk with rfl|rfl
  ·by_cases h:m<128
   ·exact aX TW m h
   ·have:=aX TX (m-128) (by omega)
    rwa[show m-128+128=m from by omega]at this
  ·by_cases h:m<128
   ·exact aX TY m h
   ·have:=aX TZ (m-128) (by omega)
    rwa[show m-128+128=m from by omega]at this
 simpa only[HE,Bool.and_eq_true,decide_eq_true_eq,beq_iff_eq]using key
end Go.Proofs.YtdnfojanjejdgaaGreat.Am
