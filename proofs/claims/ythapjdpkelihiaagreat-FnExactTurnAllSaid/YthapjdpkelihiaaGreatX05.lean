/- DERIVED. Pure: solve takes rows that begin somewhere, for all sets of shards. No statement of the program is proved here. -/
import Derived.Test.YthapjdpkelihiaaGreatX04
set_option linter.unusedSimpArgs false
set_option linter.unusedVariables false
set_option linter.unusedSectionVars false
namespace Go.Proofs.YthapjdpkelihiaaGreat.Am
theorem solOk1a:allK (fun m=>solOk 1 z8 (flg (maskB m))) 128=true:=by kernel_rfl
theorem solOk1b:allK (fun m=>solOk 1 z8 (flg (maskB (m+128)))) 128=true:=by kernel_rfl
theorem solOk2a:allK (fun m=>solOk 2 z8 (flg (maskB m))) 128=true:=by kernel_rfl
theorem solOk2b:allK (fun m=>solOk 2 z8 (flg (maskB (m+128)))) 128=true:=by kernel_rfl
theorem solOk_flg {k:Int} {w:List Int} {c:List Bool} (hk:bet k 1 2=true) (hc:c.length=8):solOk k w (flg c)=true:=by
 obtain⟨m,hm,rfl⟩:=maskB_of c hc
 refine(solOk_rows (w':=z8) ?_).1
 rcases two hk with rfl|rfl
 ·by_cases h:m<128
  ·exact allK_spec solOk1a m h
  ·have:=allK_spec solOk1b (m-128) (by omega)
   rwa[show m-128+128=m from by omega]at this
 ·by_cases h:m<128
  ·exact allK_spec solOk2a m h
  ·have:=allK_spec solOk2b (m-128) (by omega)
   rwa[show m-128+128=m from by omega]at this
def maskOfV (b:List Int) (c:List Bool) (vs:Int):List Bool:=c.zipIdx.map fun x=>x.1&& !(b.getD x.2 0 !=vs)
theorem maskOfV_len (b:List Int) (c:List Bool) (vs:Int):(maskOfV b c vs).length=c.length:=by simp[maskOfV]
theorem maskOfV_get (b:List Int) (c:List Bool) (vs:Int) (i:Nat) (hi:i<c.length):(maskOfV b c vs).getD i false=(c.getD i false&& !(b.getD i 0 !=vs)):=by
 simp[maskOfV,List.getD_eq_getElem?_getD,List.getElem?_eq_getElem,hi]
theorem flgAt_filter (b:List Int) (c:List Bool) (vs:Int): ∀k i,i+k=c.length→(flgAt c k i).filter (fun x=> !(b.getD x.toNat 0 !=vs))=flgAt (maskOfV b c vs) k i
 |0,_,_=>rfl
 |k+1,i,h=>by
  have ih:=flgAt_filter b c vs k (i+1) (by omega)
  simp only[flgAt]
  rw[maskOfV_get b c vs i (by omega)]
  cases hc:c.getD i false with
  |false=>simpa using ih
  |true=>
   rw[if_pos rfl,List.filter_cons,Int.toNat_natCast,ih]
   cases hb:(b.getD i 0 !=vs)<;>simp
theorem ofL_eq (b:List Int) (c:List Bool) (vs:Int):ofL b c vs=flg (maskOfV b c vs):=by
 unfold ofL flg
 rw[maskOfV_len]
 exact flgAt_filter b c vs _ 0 (by omega)
theorem solOk_of {k:Int} {w b:List Int} {c:List Bool} {vs:Int} (hk:bet k 1 2=true) (hc:c.length=8):solOk k w (ofL b c vs)=true:=by
 rw[ofL_eq];exact solOk_flg hk (by rw[maskOfV_len];exact hc)
theorem flg_shard {c:List Bool} (hc:c.length=8):allShard (flg c)=true:=by
 have:=flg_places c
 rw[hc]at this
 simp only[places,allShard,List.all_eq_true,Bool.and_eq_true,decide_eq_true_eq]at this⊢
 intro x hx
 have:=this x hx
 rw[bet_iff];omega
theorem of_shard {b:List Int} {c:List Bool} {vs:Int} (hc:c.length=8):allShard (ofL b c vs)=true∧(ofL b c vs).length≤8:=by
 rw[ofL_eq]
 refine⟨flg_shard (by rw[maskOfV_len];exact hc), ?_⟩
 have:=flg_len (maskOfV b c vs)
 rw[maskOfV_len,hc]at this;exact this
end Go.Proofs.YthapjdpkelihiaaGreat.Am
