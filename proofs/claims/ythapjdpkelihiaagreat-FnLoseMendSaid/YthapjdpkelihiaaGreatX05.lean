/- DERIVED. Pure: solve takes rows that begin somewhere, for all sets of shards. No statement of the program is proved here. -/
import Derived.Test.YthapjdpkelihiaaGreatX04
set_option linter.unusedSimpArgs false
set_option linter.unusedVariables false
set_option linter.unusedSectionVars false
namespace Go.Proofs.YthapjdpkelihiaaGreat.Am
theorem NW:cB (fun m=>dU 1 z8 (flg (dA m))) 128=true:=by kernel_rfl
theorem NX:cB (fun m=>dU 1 z8 (flg (dA (m+128)))) 128=true:=by kernel_rfl
theorem NY:cB (fun m=>dU 2 z8 (flg (dA m))) 128=true:=by kernel_rfl
theorem NZ:cB (fun m=>dU 2 z8 (flg (dA (m+128)))) 128=true:=by kernel_rfl
theorem wF {k:Int} {w:List Int} {c:List Bool} (hk:bet k 1 2=true) (hc:c.length=8):dU k w (flg c)=true:=by
 obtain⟨m,hm,rfl⟩:=nR c hc
 refine(u7 (w':=z8) ?_).1
 rcases two hk with rfl|rfl
 ·by_cases h:m<128
  ·exact aY NW m h
  ·have:=aY NX (m-128) (by omega)
   rwa[show m-128+128=m from by omega]at this
 ·by_cases h:m<128
  ·exact aY NY m h
  ·have:=aY NZ (m-128) (by omega)
   rwa[show m-128+128=m from by omega]at this
def aU (b:List Int) (c:List Bool) (vs:Int):List Bool:=c.zipIdx.map fun x=>x.1&& !(b.getD x.2 0 !=vs)
theorem bV (b:List Int) (c:List Bool) (vs:Int):(aU b c vs).length=c.length:=by simp[aU]
theorem eJ (b:List Int) (c:List Bool) (vs:Int) (i:Nat) (hi:i<c.length):(aU b c vs).getD i false=(c.getD i false&& !(b.getD i 0 !=vs)):=by
 simp[aU,List.getD_eq_getElem?_getD,List.getElem?_eq_getElem,hi]
theorem nE (b:List Int) (c:List Bool) (vs:Int): ∀k i,i+k=c.length→(eG c k i).filter (fun x=> !(b.getD x.toNat 0 !=vs))=eG (aU b c vs) k i
 |0,_,_=>rfl
 |k+1,i,h=>by
  have ih:=nE b c vs k (i+1) (by omega)
  simp only[eG]
  rw[eJ b c vs i (by omega)]
  cases hc:c.getD i false with
  |false=>simpa using ih
  |true=>
   rw[if_pos rfl,List.filter_cons,Int.toNat_natCast,ih]
   cases hb:(b.getD i 0 !=vs)<;>simp
theorem g9 (b:List Int) (c:List Bool) (vs:Int):ofL b c vs=flg (aU b c vs):=by
 unfold ofL flg
 rw[bV]
 exact nE b c vs _ 0 (by omega)
theorem AL {k:Int} {w b:List Int} {c:List Bool} {vs:Int} (hk:bet k 1 2=true) (hc:c.length=8):dU k w (ofL b c vs)=true:=by
 rw[g9];exact wF hk (by rw[bV];exact hc)
theorem l4 {c:List Bool} (hc:c.length=8):aM (flg c)=true:=by
 have:=mH c
 rw[hc]at this
 simp only[dC,aM,List.all_eq_true,Bool.and_eq_true,decide_eq_true_eq]at this⊢
 intro x hx
 have:=this x hx
 rw[b8];omega
theorem iY {b:List Int} {c:List Bool} {vs:Int} (hc:c.length=8):aM (ofL b c vs)=true∧(ofL b c vs).length≤8:=by
 rw[g9]
 refine⟨l4 (by rw[bV];exact hc), ?_⟩
 have:=nG (aU b c vs)
 rw[bV,hc]at this;exact this
end Go.Proofs.YthapjdpkelihiaaGreat.Am
