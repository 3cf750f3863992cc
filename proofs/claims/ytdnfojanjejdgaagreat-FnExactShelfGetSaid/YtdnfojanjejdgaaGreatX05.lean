/- DERIVED. Pure: solve takes rows that begin somewhere, for all sets of shards. No statement of the program is proved here. -/
import Derived.Test.YtdnfojanjejdgaaGreatX04
set_option linter.unusedSimpArgs false
set_option linter.unusedVariables false
set_option linter.unusedSectionVars false
set_option linter.defProp false
namespace Go.Proofs.YtdnfojanjejdgaaGreat.Am
theorem QW:cN (fun m=>dU 1 z8 (flg (eQ m))) 128=true:=by kernel_rfl
theorem QX:cN (fun m=>dU 1 z8 (flg (eQ (m+128)))) 128=true:=by kernel_rfl
theorem QY:cN (fun m=>dU 2 z8 (flg (eQ m))) 128=true:=by kernel_rfl
theorem QZ:cN (fun m=>dU 2 z8 (flg (eQ (m+128)))) 128=true:=by kernel_rfl
theorem xF {k:Int} {w:List Int} {c:List Bool} (hk:bet k 1 2=true) (hc:c.length=8):dU k w (flg c)=true:=by
 obtain⟨m,hm,rfl⟩:=u6 c hc
 refine(uY (w':=z8) ?_).1
 rcases two hk with rfl|rfl
 ·by_cases h:m<128
  ·exact aX QW m h
  ·have:=aX QX (m-128) (by omega)
   rwa[show m-128+128=m from by omega]at this
 ·by_cases h:m<128
  ·exact aX QY m h
  ·have:=aX QZ (m-128) (by omega)
   rwa[show m-128+128=m from by omega]at this
def bJ (b:List Int) (c:List Bool) (vs:Int):List Bool:=c.zipIdx.map fun x=>x.1&& !(b.getD x.2 0 !=vs)
theorem bY (b:List Int) (c:List Bool) (vs:Int):(bJ b c vs).length=c.length:=by simp[bJ]
theorem fY (b:List Int) (c:List Bool) (vs:Int) (i:Nat) (hi:i<c.length):(bJ b c vs).getD i false=(c.getD i false&& !(b.getD i 0 !=vs)):=by
 simp[bJ,List.getD_eq_getElem?_getD,List.getElem?_eq_getElem,hi]
theorem nA (b:List Int) (c:List Bool) (vs:Int): ∀k i,i+k=c.length→(f0 c k i).filter (fun x=> !(b.getD x.toNat 0 !=vs))=f0 (bJ b c vs) k i
 |0,_,_=>rfl
 |k+1,i,h=>by
  have ih:=nA b c vs k (i+1) (by omega)
  simp only[f0]
  rw[fY b c vs i (by omega)]
  cases hc:c.getD i false with
  |false=>simpa using ih
  |true=>
   rw[if_pos rfl,List.filter_cons,Int.toNat_natCast,ih]
   cases hb:(b.getD i 0 !=vs)<;>simp
theorem pC (b:List Int) (c:List Bool) (vs:Int):ofL b c vs=flg (bJ b c vs):=by
 unfold ofL flg
 rw[bY]
 exact nA b c vs _ 0 (by omega)
theorem C6 {k:Int} {w b:List Int} {c:List Bool} {vs:Int} (hk:bet k 1 2=true) (hc:c.length=8):dU k w (ofL b c vs)=true:=by
 rw[pC];exact xF hk (by rw[bY];exact hc)
theorem oT {c:List Bool} (hc:c.length=8):bD (flg c)=true:=by
 have:=mD c
 rw[hc]at this
 simp only[d9,bD,List.all_eq_true,Bool.and_eq_true,rpS,decide_eq_true_eq]at this⊢
 intro x hx
 have:=this x hx
 rw[bQ];omega
theorem uD {b:List Int} {c:List Bool} {vs:Int} (hc:c.length=8):bD (ofL b c vs)=true∧(ofL b c vs).length≤8:=by
 rw[pC]
 refine⟨oT (by rw[bY];exact hc), ?_⟩
 have:=nC (bJ b c vs)
 rw[bY,hc]at this;exact this
end Go.Proofs.YtdnfojanjejdgaaGreat.Am
