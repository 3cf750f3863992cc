/- DERIVED. Pure: the reference's rows begin somewhere; shards bear alike in both. No statement of the program is proved here. -/
import Derived.Test.YthapjdpkelihiaaGreatX07
set_option linter.unusedSimpArgs false
set_option linter.unusedVariables false
set_option linter.unusedSectionVars false
namespace Go.Proofs.YthapjdpkelihiaaGreat.Am
def EU (k:Int) (m:Nat):Bool:=eS (rwL k (dA m))&&(j9 4 (cM (rwL k (dA m)))&&(decide ((cM (rwL k (dA m))).length≤4)&&((((cM (rwL k (dA m))).length:Int)==4)==bO k (flg (dA m)))))
theorem QG:cB (fun m=>EU 1 m) 128=true:=by kernel_rfl
theorem QH:cB (fun m=>EU 1 (m+128)) 128=true:=by kernel_rfl
theorem QI:cB (fun m=>EU 2 m) 128=true:=by kernel_rfl
theorem QJ:cB (fun m=>EU 2 (m+128)) 128=true:=by kernel_rfl
theorem zC {k:Int} {c:List Bool} (hk:bet k 1 2=true) (hc:c.length=8):eS (rwL k c)=true∧j9 4 (cM (rwL k c))=true∧(cM (rwL k c)).length≤4∧(((cM (rwL k c)).length:Int)==4)=bO k (flg c):=by
 obtain⟨m,hm,rfl⟩:=nR c hc
 have key:EU k m=true:=by
  rcases two hk with rfl|rfl
  ·by_cases h:m<128
   ·exact aY QG m h
   ·have:=aY QH (m-128) (by omega)
    rwa[show m-128+128=m from by omega]at this
  ·by_cases h:m<128
   ·exact aY QI m h
   ·have:=aY QJ (m-128) (by omega)
    rwa[show m-128+128=m from by omega]at this
 simpa only[EU,Bool.and_eq_true,decide_eq_true_eq,beq_iff_eq]using key
end Go.Proofs.YthapjdpkelihiaaGreat.Am
