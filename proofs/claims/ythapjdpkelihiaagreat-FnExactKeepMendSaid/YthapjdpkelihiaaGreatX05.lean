/- DERIVED. Pure: solve takes rows that begin somewhere, for all sets of shards. No statement of the program is proved here. -/
import Derived.Test.YthapjdpkelihiaaGreatX04
set_option linter.unusedSimpArgs false
set_option linter.unusedVariables false
set_option linter.unusedSectionVars false
namespace Go.Proofs.YthapjdpkelihiaaGreat.Am
theorem NG:c7 (fun m=>dP 1 z8 (flg (cZ m))) 128=true:=by kernel_rfl
theorem NH:c7 (fun m=>dP 1 z8 (flg (cZ (m+128)))) 128=true:=by kernel_rfl
theorem NI:c7 (fun m=>dP 2 z8 (flg (cZ m))) 128=true:=by kernel_rfl
theorem NJ:c7 (fun m=>dP 2 z8 (flg (cZ (m+128)))) 128=true:=by kernel_rfl
theorem vY {k:Int} {w:List Int} {c:List Bool} (hk:bet k 1 2=true) (hc:c.length=8):dP k w (flg c)=true:=by
 obtain⟨m,hm,rfl⟩:=nJ c hc
 refine(tQ (w':=z8) ?_).1
 rcases two hk with rfl|rfl
 ·by_cases h:m<128
  ·exact aV NG m h
  ·have:=aV NH (m-128) (by omega)
   rwa[show m-128+128=m from by omega]at this
 ·by_cases h:m<128
  ·exact aV NI m h
  ·have:=aV NJ (m-128) (by omega)
   rwa[show m-128+128=m from by omega]at this
def aR (b:List Int) (c:List Bool) (vs:Int):List Bool:=c.zipIdx.map fun x=>x.1&& !(b.getD x.2 0 !=vs)
theorem bP (b:List Int) (c:List Bool) (vs:Int):(aR b c vs).length=c.length:=by simp[aR]
theorem eF (b:List Int) (c:List Bool) (vs:Int) (i:Nat) (hi:i<c.length):(aR b c vs).getD i false=(c.getD i false&& !(b.getD i 0 !=vs)):=by
 simp[aR,List.getD_eq_getElem?_getD,List.getElem?_eq_getElem,hi]
theorem n0 (b:List Int) (c:List Bool) (vs:Int): ∀k i,i+k=c.length→(dY c k i).filter (fun x=> !(b.getD x.toNat 0 !=vs))=dY (aR b c vs) k i
 |0,_,_=>rfl
 |k+1,i,h=>by
  have ih:=n0 b c vs k (i+1) (by omega)
  simp only[dY]
  rw[eF b c vs i (by omega)]
  cases hc:c.getD i false with
  |false=>simpa using ih
  |true=>
   rw[if_pos rfl,List.filter_cons,Int.toNat_natCast,ih]
   cases hb:(b.getD i 0 !=vs)<;>simp
theorem gX (b:List Int) (c:List Bool) (vs:Int):ofL b c vs=flg (aR b c vs):=by
 unfold ofL flg
 rw[bP]
 exact n0 b c vs _ 0 (by omega)
theorem A7 {k:Int} {w b:List Int} {c:List Bool} {vs:Int} (hk:bet k 1 2=true) (hc:c.length=8):dP k w (ofL b c vs)=true:=by
 rw[gX];exact vY hk (by rw[bP];exact hc)
theorem oT {c:List Bool} (hc:c.length=8):aK (flg c)=true:=by
 have:=m9 c
 rw[hc]at this
 simp only[d7,aK,List.all_eq_true,Bool.and_eq_true,rpS,decide_eq_true_eq]at this⊢
 intro x hx
 have:=this x hx
 rw[aX];omega
theorem kE {b:List Int} {c:List Bool} {vs:Int} (hc:c.length=8):aK (ofL b c vs)=true∧(ofL b c vs).length≤8:=by
 rw[gX]
 refine⟨oT (by rw[bP];exact hc), ?_⟩
 have:=n7 (aR b c vs)
 rw[bP,hc]at this;exact this
end Go.Proofs.YthapjdpkelihiaaGreat.Am
