/- DERIVED. Pure: the reference's rows begin somewhere; shards bear alike in both. No statement of the program is proved here. -/
import Derived.Test.YthapjdpkelihiaaGreatX07
set_option linter.unusedSimpArgs false
set_option linter.unusedVariables false
set_option linter.unusedSectionVars false
namespace Go.Proofs.YthapjdpkelihiaaGreat.Am
def chk3 (k:Int) (m:Nat):Bool:=tidOk (rwL k (maskB m))&&(tdOk 4 (tidL (rwL k (maskB m)))&&(decide ((tidL (rwL k (maskB m))).length≤4)&&((((tidL (rwL k (maskB m))).length:Int)==4)==bearsL k (flg (maskB m)))))
theorem chk31a:allK (fun m=>chk3 1 m) 128=true:=by kernel_rfl
theorem chk31b:allK (fun m=>chk3 1 (m+128)) 128=true:=by kernel_rfl
theorem chk32a:allK (fun m=>chk3 2 m) 128=true:=by kernel_rfl
theorem chk32b:allK (fun m=>chk3 2 (m+128)) 128=true:=by kernel_rfl
theorem chk3_all {k:Int} {c:List Bool} (hk:bet k 1 2=true) (hc:c.length=8):tidOk (rwL k c)=true∧tdOk 4 (tidL (rwL k c))=true∧(tidL (rwL k c)).length≤4∧(((tidL (rwL k c)).length:Int)==4)=bearsL k (flg c):=by
 obtain⟨m,hm,rfl⟩:=maskB_of c hc
 have key:chk3 k m=true:=by
  rcases two hk with rfl|rfl
  ·by_cases h:m<128
   ·exact allK_spec chk31a m h
   ·have:=allK_spec chk31b (m-128) (by omega)
    rwa[show m-128+128=m from by omega]at this
  ·by_cases h:m<128
   ·exact allK_spec chk32a m h
   ·have:=allK_spec chk32b (m-128) (by omega)
    rwa[show m-128+128=m from by omega]at this
 simpa only[chk3,Bool.and_eq_true,decide_eq_true_eq,beq_iff_eq]using key
end Go.Proofs.YthapjdpkelihiaaGreat.Am
