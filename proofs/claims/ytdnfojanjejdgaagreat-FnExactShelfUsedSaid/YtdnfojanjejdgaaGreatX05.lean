/- DERIVED. Pure: solve takes rows that begin somewhere, for all sets of shards. No statement of the program is proved here. -/
import Derived.Test.YtdnfojanjejdgaaGreatX04
set_option linter.unusedSimpArgs false
set_option linter.unusedVariables false
set_option linter.unusedSectionVars false
namespace Go.Proofs.YtdnfojanjejdgaaGreat.Am
theorem OA:cN (fun m=>dO 1 z8 (flg (eR m))) 128=true:=by kernel_rfl
theorem OB:cN (fun m=>dO 1 z8 (flg (eR (m+128)))) 128=true:=by kernel_rfl
theorem OC:cN (fun m=>dO 2 z8 (flg (eR m))) 128=true:=by kernel_rfl
theorem OD:cN (fun m=>dO 2 z8 (flg (eR (m+128)))) 128=true:=by kernel_rfl
theorem wJ {k:Int} {w:List Int} {c:List Bool} (hk:bet k 1 2=true) (hc:c.length=8):dO k w (flg c)=true:=by
 obtain⟨m,hm,rfl⟩:=tG c hc
 refine(u9 (w':=z8) ?_).1
 rcases two hk with rfl|rfl
 ·by_cases h:m<128
  ·exact aX OA m h
  ·have:=aX OB (m-128) (by omega)
   rwa[show m-128+128=m from by omega]at this
 ·by_cases h:m<128
  ·exact aX OC m h
  ·have:=aX OD (m-128) (by omega)
   rwa[show m-128+128=m from by omega]at this
def bG (b:List Int) (c:List Bool) (vs:Int):List Bool:=c.zipIdx.map fun x=>x.1&& !(b.getD x.2 0 !=vs)
theorem bV (b:List Int) (c:List Bool) (vs:Int):(bG b c vs).length=c.length:=by simp[bG]
theorem fT (b:List Int) (c:List Bool) (vs:Int) (i:Nat) (hi:i<c.length):(bG b c vs).getD i false=(c.getD i false&& !(b.getD i 0 !=vs)):=by
 simp[bG,List.getD_eq_getElem?_getD,List.getElem?_eq_getElem,hi]
theorem n0 (b:List Int) (c:List Bool) (vs:Int): ∀k i,i+k=c.length→(eY c k i).filter (fun x=> !(b.getD x.toNat 0 !=vs))=eY (bG b c vs) k i
 |0,_,_=>rfl
 |k+1,i,h=>by
  have ih:=n0 b c vs k (i+1) (by omega)
  simp only[eY]
  rw[fT b c vs i (by omega)]
  cases hc:c.getD i false with
  |false=>simpa using ih
  |true=>
   rw[if_pos rfl,List.filter_cons,Int.toNat_natCast,ih]
   cases hb:(b.getD i 0 !=vs)<;>simp
theorem p6 (b:List Int) (c:List Bool) (vs:Int):ofL b c vs=flg (bG b c vs):=by
 unfold ofL flg
 rw[bV]
 exact n0 b c vs _ 0 (by omega)
theorem AW {k:Int} {w b:List Int} {c:List Bool} {vs:Int} (hk:bet k 1 2=true) (hc:c.length=8):dO k w (ofL b c vs)=true:=by
 rw[p6];exact wJ hk (by rw[bV];exact hc)
theorem oN {c:List Bool} (hc:c.length=8):bC (flg c)=true:=by
 have:=m7 c
 rw[hc]at this
 simp only[d7,bC,List.all_eq_true,Bool.and_eq_true,rpS,decide_eq_true_eq]at this⊢
 intro x hx
 have:=this x hx
 rw[bN];omega
theorem tN {b:List Int} {c:List Bool} {vs:Int} (hc:c.length=8):bC (ofL b c vs)=true∧(ofL b c vs).length≤8:=by
 rw[p6]
 refine⟨oN (by rw[bV];exact hc), ?_⟩
 have:=n7 (bG b c vs)
 rw[bV,hc]at this;exact this
end Go.Proofs.YtdnfojanjejdgaaGreat.Am
