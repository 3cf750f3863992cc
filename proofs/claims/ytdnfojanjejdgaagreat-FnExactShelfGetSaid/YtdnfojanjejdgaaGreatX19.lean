/- DERIVED. Part 19 of the proof: L2, L3, L4. No statement of the program is proved here. -/
import Derived.Test.YtdnfojanjejdgaaGreatX18
import Derived.Deep.Slices
set_option linter.unusedSimpArgs false
set_option linter.unusedVariables false
set_option linter.unusedSectionVars false
set_option linter.defProp false
namespace Go.Proofs.YtdnfojanjejdgaaGreat.Am
section
open Go.RowKit Go.Deep Go.ChangeShapes Go.WideShapes
abbrev VR (w:World) (c:aI) (v:Value):Prop:=CR0 w (fun b=>b9 noIds b∨False) noIds c v
structure aBW (P:Program) (t:TypeId) {α:Type} (ok:α→Prop) (cells:α→List aI):Prop where
 rd: ∀ {H:Type} {enc:TypeId×Value→H} {w:World} {base:Nat} {spare:Nat→Bool} {held:Bool} {fuel:Nat} {cs:List Value} {x:DataW H×List MemPlace},
  DataW.trod enc P w base spare held fuel t cs=some x→ ∃a,ok a∧cs.length=(cells a).length∧ ∀i,i<cs.length→VR w ((cells a).getD i .any) (cs.getD i undef)
variable {P : Program} {t e : TypeId}
theorem aBW.int {k:IntKind} (hu:P.underlying t=some (.int k)):aBW P t (fun n=>(Lit.int k n).wf=true) (fun n=>[.int k n]):=by
 refine⟨fun {H enc w base spare held fuel cs x} h=> ?_⟩
 obtain⟨m,rfl,rfl,hw⟩:=DataW.trod_int hu h
 exact⟨m,hw,rfl,fun i hi=>by
  match i,hi with
  |0,_=>exact .int k m⟩
theorem aBW.bool (hu:P.underlying t=some .bool):aBW P t (fun _=>True) (fun b=>[.bool b]):=by
 refine⟨fun {H enc w base spare held fuel cs x} h=> ?_⟩
 obtain⟨b,rfl,rfl⟩:=DataW.trod_bool hu h
 exact⟨b,trivial,rfl,fun i hi=>by
  match i,hi with
  |0,_=>exact .bool b⟩
theorem aCO {w:World} {x:Addr} {len cap es:Nat} {c:Con} {u:Nat→Value} (he:0<es) (hz:len*es=c.size) (hl:len≤cap) (hcell: ∀q,q<c.size→w.cell? (x.add q)=some (u q)) (hu: ∀q,q<c.size→VR w (c.cell q) (u q)):VR w (.view none c len es none) (.slice (some x) len cap):=by
 by_cases h0:0<c.size
 ·obtain⟨b,off,spot⟩:=x
  have hspot:spot=none:=by simpa [Addr.add]using World.cell?_spot (hcell 0 h0)
  subst hspot
  refine .view none c len es none b off cap u (fun _ h=> ?_) (fun q hq=> ?_) hu hz hl (fun _ h=>by cases h) (fun _ h=>by cases h)
  ·rcases h with⟨id,h⟩|h
   ·cases h
   ·exact h
  ·have:=hcell q hq
   have ea:(⟨b,off,none⟩:Addr).add q=⟨b,off+q,none⟩:=by
    unfold Addr.add
    split
    ·rename_i h0;subst h0;rfl
    ·rfl
   rwa[ea]at this
 ·have h1:c.size=0:=by omega
  have hl0:len=0:=by
   rcases Nat.eq_zero_or_pos len with h|h
   ·exact h
   ·have:=Nat.mul_pos h he;omega
  subst hl0
  exact .viewNone none c es none (some x) cap h1 (fun _ h=>by cases h) (fun _ h=>by cases h) (fun h=>by cases h)
theorem aCJ {w:World} {es:Nat} {c:Con} (hc:c.size=0):VR w (.view none c 0 es none) (.slice none 0 0):=
 .viewNone none c es none none 0 hc (fun _ h=>by cases h) (fun _ h=>by cases h) (fun _=>rfl)
theorem aBW.ints {k:IntKind} (hs:P.underlying t=some (.slice e)) (hu:P.underlying e=some (.int k)) (hc:P.cellsOf e=1):
  aBW P t (fun a=>a.length≤maxLen) (fun a=>[.view none (.ints k a) a.length 1 none]):=by
 refine⟨fun {H enc w base spare held fuel cs x} h=> ?_⟩
 rcases open_slice1 hs hc h with⟨rfl,-⟩|⟨a,len,cap,m,n,V,D,Pl,rfl,-,hl,hm,hmm,-,hi⟩
 ·exact⟨[],Nat.zero_le _,rfl,fun i hi=>by
   match i,hi with
   |0,_=>exact aCJ rfl⟩
 ·have hg: ∀i,i<len→ ∃z,V i=.int k z:=fun i hl'=>by
   have hlm:i<m:=by rw[hmm];split<;>omega
   obtain⟨z,hz,-⟩:=DataW.trod_int hu (hi i hlm).2
   exact⟨z,by simpa using hz⟩
  refine⟨(List.range len).map fun i=>match V i with|.int _ z=>z|_=>0,by simp;omega,rfl,fun i hi'=> ?_⟩
  match i,hi' with
  |0,_=>
   have hsz:(Con.ints k ((List.range len).map fun i=>match V i with|.int _ z=>z|_=>0)).size=len:=by simp[Con.size]
   have hv:=aCO (w:=w) (x:=a) (len:=len) (cap:=cap) (es:=1) (c:=.ints k ((List.range len).map fun i=>match V i with|.int _ z=>z|_=>0)) (u:=V) (by omega) (by rw[hsz];omega) hl
    (fun q hq=>by
     rw[hsz]at hq
     have hlm:q<m:=by rw[hmm];split<;>omega
     exact(hi q hlm).1) (fun q hq=>by
     rw[hsz]at hq
     obtain⟨z,hz⟩:=hg q hq
     have e:(Con.ints k ((List.range len).map fun i=>match V i with|.int _ z=>z|_=>0)).cell q=.int k z:=by
      show aI.int k _=_
      rw[List.getD_eq_getElem?_getD,List.getElem?_map,List.getElem?_range hq]
      simp[hz]
     rw[e,hz];exact .int k z)
   simpa using hv
theorem aBW.bools (hs:P.underlying t=some (.slice e)) (hu:P.underlying e=some .bool) (hc:P.cellsOf e=1):
  aBW P t (fun a=>a.length≤maxLen) (fun a=>[.view none (.bools a) a.length 1 none]):=by
 refine⟨fun {H enc w base spare held fuel cs x} h=> ?_⟩
 rcases open_slice1 hs hc h with⟨rfl,-⟩|⟨a,len,cap,m,n,V,D,Pl,rfl,-,hl,hm,hmm,-,hi⟩
 ·exact⟨[],Nat.zero_le _,rfl,fun i hi=>by
   match i,hi with
   |0,_=>exact aCJ rfl⟩
 ·have hg: ∀i,i<len→ ∃z,V i=.bool z:=fun i hl'=>by
   have hlm:i<m:=by rw[hmm];split<;>omega
   obtain⟨z,hz,-⟩:=DataW.trod_bool hu (hi i hlm).2
   exact⟨z,by simpa using hz⟩
  refine⟨(List.range len).map fun i=>match V i with|.bool z=>z|_=>false,by simp;omega,rfl,fun i hi'=> ?_⟩
  match i,hi' with
  |0,_=>
   have hsz:(Con.bools ((List.range len).map fun i=>match V i with|.bool z=>z|_=>false)).size=len:=by simp[Con.size]
   have hv:=aCO (w:=w) (x:=a) (len:=len) (cap:=cap) (es:=1) (c:=.bools ((List.range len).map fun i=>match V i with|.bool z=>z|_=>false)) (u:=V) (by omega) (by rw[hsz];omega) hl
    (fun q hq=>by
     rw[hsz]at hq
     have hlm:q<m:=by rw[hmm];split<;>omega
     exact(hi q hlm).1) (fun q hq=>by
     rw[hsz]at hq
     obtain⟨z,hz⟩:=hg q hq
     have e:(Con.bools ((List.range len).map fun i=>match V i with|.bool z=>z|_=>false)).cell q=.bool z:=by
      show aI.bool _=_
      rw[List.getD_eq_getElem?_getD,List.getElem?_map,List.getElem?_range hq]
      simp[hz]
     rw[e,hz];exact .bool z)
   simpa using hv
theorem aEB {cs:List Value} {o s j:Nat} (hj:j<s):((cs.drop o).take s).getD j undef=cs.getD (o+j) undef:=by
 rw[List.getD_eq_getElem?_getD,List.getD_eq_getElem?_getD,List.getElem?_take,if_pos hj,List.getElem?_drop]
theorem aBX {m j:Nat} (h:P.cellsOf t=m) (hj:j<m):j<P.cellsOf t:=by omega
theorem aBW.field {H:Type} {enc:TypeId×Value→H} {w:World} {base:Nat} {spare:Nat→Bool} {held:Bool} {n:Nat} {cs:List Value} {fs:Array Field} {xs:List (DataW H×List MemPlace)} {α:Type} {ok:α→Prop} {cells:α→List aI}
  (hl:xs.length=fs.size) (hf: ∀(i:Nat) (f:Field),fs[i]? =some f→DataW.trod enc P w base spare held n f.type ((cs.drop f.offset).take (P.cellsOf f.type))=xs[i]?) {i:Nat} {f:Field} (hi:fs[i]? =some f) (R:aBW P f.type ok cells):
  ∃a,ok a∧ ∀j,j<(cells a).length→j<P.cellsOf f.type→VR w ((cells a).getD j .any) (cs.getD (f.offset+j) undef):=by
 have h:=hf i f hi
 have hil:i<fs.size:=(Array.getElem?_eq_some_iff.1 hi).1
 rw[List.getElem?_eq_getElem (by omega)]at h
 obtain⟨a,h1,h2,h3⟩:=R.rd h
 refine⟨a,h1,fun j hj hj2=> ?_⟩
 have:=h3 j (by omega)
 rwa[aEB hj2]at this
def aCC (s:Int×List Int×List Int×List Bool):List aI:=[.int .i64 s.1,.view none (.ints .i64 s.2.1) s.2.1.length 1 none,.view none (.ints .i64 s.2.2.1) s.2.2.1.length 1 none,.view none (.bools s.2.2.2) s.2.2.2.length 1 none]
theorem aEZ:aBW Tryz.prog 3 (fun n=>(Lit.int .i64 n).wf=true) (fun n=>[.int .i64 n]):=aBW.int (P:=Tryz.prog) (t:=3) (k:=.i64) Tryz.underlying3
theorem aHE:aBW Tryz.prog 4 (fun _=>True) (fun b=>[.bool b]):=aBW.bool (P:=Tryz.prog) (t:=4) Tryz.underlying4
theorem aED:aBW Tryz.prog 76 (fun a=>a.length≤maxLen) (fun a=>[.view none (.ints .i64 a) a.length 1 none]):=aBW.ints (P:=Tryz.prog) (t:=76) (k:=.i64) Tryz.underlying76 Tryz.underlying3 (by kernel_rfl)
theorem aFM:aBW Tryz.prog 34 (fun a=>a.length≤maxLen) (fun a=>[.view none (.bools a) a.length 1 none]):=aBW.bools (P:=Tryz.prog) (t:=34) Tryz.underlying34 Tryz.underlying4 (by kernel_rfl)
theorem aD4:aBW Tryz.prog 199 (fun s:Int×List Int×List Int×List Bool=>s.2.1.length≤maxLen∧s.2.2.1.length≤maxLen∧s.2.2.2.length≤maxLen) aCC:=by
 refine⟨fun {H enc w base spare held fuel cs x} h=> ?_⟩
 obtain⟨xs,n,-,-,hl,hx,hf⟩:=DataW.trod_struct Tryz.underlying199 h
 have c1:Tryz.prog.cellsOf 3=1:=by kernel_rfl
 have c2:Tryz.prog.cellsOf 76=1:=by kernel_rfl
 have c3:Tryz.prog.cellsOf 34=1:=by kernel_rfl
 have c4:Tryz.prog.cellsOf 199=4:=by kernel_rfl
 obtain⟨k,-,r0⟩:=aBW.field hx hf (i:=0) rfl aEZ
 obtain⟨a,o1,r1⟩:=aBW.field hx hf (i:=1) rfl aED
 obtain⟨b,o2,r2⟩:=aBW.field hx hf (i:=2) rfl aED
 obtain⟨c,o3,r3⟩:=aBW.field hx hf (i:=3) rfl aFM
 refine⟨(k,a,b,c),⟨o1,o2,o3⟩,hl.trans c4,fun i hi=> ?_⟩
 rw[hl,c4]at hi
 match i,hi with
 |0,_=>exact r0 0 (by simp) (aBX c1 (by omega))
 |1,_=>exact r1 0 (by simp) (aBX c2 (by omega))
 |2,_=>exact r2 0 (by simp) (aBX c2 (by omega))
 |3,_=>exact r3 0 (by simp) (aBX c3 (by omega))
theorem mxl {n:Nat} (h:n≤maxLen):n≤9223372036854775807:=h
def PK.small (x:PK):Prop:=x.a.length≤9223372036854775807∧x.b.length≤9223372036854775807∧x.c.length≤9223372036854775807∧x.d.length≤9223372036854775807
theorem aDP:aBW Tryz.prog 201 PK.small PK.vcells:=by
 refine⟨fun {H enc w base spare held fuel cs x} h=> ?_⟩
 obtain⟨xs,n,-,-,hl,hx,hf⟩:=DataW.trod_struct Tryz.underlying201 h
 have c1:Tryz.prog.cellsOf 3=1:=by kernel_rfl
 have c2:Tryz.prog.cellsOf 76=1:=by kernel_rfl
 have c3:Tryz.prog.cellsOf 4=1:=by kernel_rfl
 have c4:Tryz.prog.cellsOf 199=4:=by kernel_rfl
 have c5:Tryz.prog.cellsOf 201=8:=by kernel_rfl
 obtain⟨s,⟨o1,o2,o3⟩,r0⟩:=aBW.field hx hf (i:=0) rfl aD4
 obtain⟨on,-,r1⟩:=aBW.field hx hf (i:=1) rfl aHE
 obtain⟨kd,-,r2⟩:=aBW.field hx hf (i:=2) rfl aEZ
 obtain⟨d,o4,r3⟩:=aBW.field hx hf (i:=3) rfl aED
 obtain⟨vs,-,r4⟩:=aBW.field hx hf (i:=4) rfl aEZ
 refine⟨⟨s.1,s.2.1,s.2.2.1,s.2.2.2,on,kd,d,vs⟩,⟨mxl o1,mxl o2,mxl o3,mxl o4⟩,hl.trans c5,fun i hi=> ?_⟩
 rw[hl,c5]at hi
 match i,hi with
 |0,_=>exact r0 0 (by simp[aCC]) (aBX c4 (by omega))
 |1,_=>exact r0 1 (by simp[aCC]) (aBX c4 (by omega))
 |2,_=>exact r0 2 (by simp[aCC]) (aBX c4 (by omega))
 |3,_=>exact r0 3 (by simp[aCC]) (aBX c4 (by omega))
 |4,_=>exact r1 0 (by simp) (aBX c3 (by omega))
 |5,_=>exact r2 0 (by simp) (aBX c1 (by omega))
 |6,_=>exact r3 0 (by simp) (aBX c2 (by omega))
 |7,_=>exact r4 0 (by simp) (aBX c1 (by omega))
theorem aBW.agg {H:Type} {enc:TypeId×Value→H} {w:World} {base:Nat} {spare:Nat→Bool} {held:Bool} {v:Value} {d:DataW H} {p:List MemPlace} {fs:Array Field} {α:Type} {ok:α→Prop} {cells:α→List aI} {r:Reach} {b0:Nat}
  (R:aBW P t ok cells) (hs:P.underlying t=some (.struct fs)) (hv:Value.okWide P w r b0 t v) (h:DataW.Trod enc P w base spare held t v d p): ∃a,ok a∧AVR (fun _=>False) w noIds (.agg (cells a)) v:=by
 obtain⟨cs,rfl,hsz⟩:=okWide_struct hs hv
 obtain⟨fuel,hf⟩:=h
 obtain⟨a,h1,h2,h3⟩:=R.rd hf
 simp only[Value.cells]at h2 h3
 refine⟨a,h1,.agg _ _ (by simpa using h2) fun i hi=> ?_⟩
 have:=h3 i (by omega)
 simpa [List.getD_eq_getElem?_getD,Array.getD_eq_getD_getElem?]using this
theorem aE8 {f:FuncId} {avs:List AV} (hm:bF Tryz.prog f avs [] (.c (.bool true)) []) {W:World} {vs:List Value} (hl:vs.length=avs.length) (hv: ∀q,q<avs.length→AVR (fun _=>False) W noIds (avs.getD q .any) (vs.getD q undef)):
  Calls Tryz.prog f ⟨vs⟩ W fun e w'=>e=.returned (.bool true)∧Below W.heap.size W w':=by
 refine Calls.mono (hm.2 (aBU W) vs hl hv) ?_
 rintro e w' ⟨v,ρ',rfl,mb,im,m',hr⟩
 refine⟨?_,m'.os,m'.tape,m'.output,m'.size,fun k hk=>m'.keep k hk fun⟨id,h⟩=>by cases h⟩
 cases hr with
 |c x v hx=>cases hx;rfl
end
section
open Go.RowKit Go.Deep Go.ChangeShapes Go.WideShapes
variable {P : Program} {t e : TypeId}
theorem aBW.str (hu:P.underlying t=some .string):aBW P t (fun s:ByteArray=>s.size≤maxLen) (fun s=>[.str s]):=by
 refine⟨fun {H enc w base spare held fuel cs x} h=> ?_⟩
 obtain⟨s,rfl,rfl,hs⟩:=DataW.trod_string hu h
 exact⟨s,hs,rfl,fun i hi=>by
  match i,hi with
  |0,_=>exact .str s⟩
instance (τ:Ty):Inhabited τ.car:=⟨τ.dflt⟩
theorem aBW.typ {τ:Ty} {ok:τ.car→Prop} (R:aBW P e ok τ.cells) (hs:P.underlying t=some (.slice e)) (hc:P.cellsOf e=τ.es):
  aBW P t (fun xs=>xs.length≤maxLen∧ ∀x∈xs,ok x) (fun xs=>[.view none (.typ τ xs) xs.length τ.es none]):=by
 refine⟨fun {H enc w base spare held fuel cs x} h=> ?_⟩
 rcases open_slice hs h with⟨rfl,-⟩|⟨a,len,cap,m,n,D,Pl,rfl,-,hl,hm,hmm,-,hi⟩
 ·exact⟨[],⟨Nat.zero_le _,fun x hx=>by cases hx⟩,rfl,fun i hi=>by
   match i,hi with
   |0,_=>exact aCJ (by simp[Con.size])⟩
 ·have hlm: ∀i,i<len→i<m:=fun i h=>by rw[hmm];split<;>omega
  obtain⟨A,hA⟩:=choose_lt (α:=τ.car) (n:=len) (p:=fun i y=>ok y∧ ∀j,j<τ.es→ ∃v,w.cell? (a.add (i*τ.es+j))=some v∧VR w ((τ.cells y).getD j .any) v) (fun i hil=>by
   obtain⟨cs',h1,h2⟩:=hi i (hlm i hil)
   obtain⟨y,y1,y2,y3⟩:=R.rd h2
   obtain⟨_,hlen,hcell⟩:=World.cells?_some h1
   rw[hc]at hlen hcell
   refine⟨y,y1,fun j hj=>⟨cs'.getD j undef, ?_,y3 j (by omega)⟩⟩
   have:=hcell j hj
   rw[add_add]at this
   rw[this,List.getD_eq_getElem?_getD,List.getElem?_eq_getElem (by omega)];rfl)
  have hes:=τ.es_pos
  refine⟨(List.range len).map A,⟨by simp;omega,fun x hx=> ?_⟩,rfl,fun i hi'=> ?_⟩
  ·obtain⟨k,hk,rfl⟩:=List.mem_map.1 hx
   exact(hA k (List.mem_range.1 hk)).1
  match i,hi' with
  |0,_=>
   have hsz:(Con.typ τ ((List.range len).map A)).size=len*τ.es:=by simp[Con.size]
   have key: ∀q,q<len*τ.es→ ∃v,w.cell? (a.add q)=some v∧VR w ((Con.typ τ ((List.range len).map A)).cell q) v:=fun q hq=>by
    have hq1:q/τ.es<len:=Nat.div_lt_of_lt_mul (by rw[Nat.mul_comm];exact hq)
    obtain⟨v,hv1,hv2⟩:=(hA (q/τ.es) hq1).2 (q%τ.es) (Nat.mod_lt _ hes)
    rw[show q/τ.es*τ.es+q%τ.es=q from Nat.div_add_mod' q τ.es]at hv1
    refine⟨v,hv1, ?_⟩
    have e:(Con.typ τ ((List.range len).map A)).cell q=(τ.cells (A (q/τ.es))).getD (q%τ.es) .any:=by
     show(τ.cells (((List.range len).map A).getD (q/τ.es) τ.dflt)).getD (q%τ.es) .any=_
     rw[List.getD_eq_getElem?_getD (l:=(List.range len).map A),List.getElem?_map,List.getElem?_range hq1];rfl
    rw[e];exact hv2
   obtain⟨u,hu⟩:=choose_lt (α:=Value) (n:=len*τ.es) key
   have hv:=aCO (w:=w) (x:=a) (len:=len) (cap:=cap) (es:=τ.es) (c:=.typ τ ((List.range len).map A)) (u:=u) hes (by rw[hsz]) hl (fun q hq=>(hu q (by rw[hsz]at hq;exact hq)).1) (fun q hq=>(hu q (by rw[hsz]at hq;exact hq)).2)
   simpa using hv
def Itm.small (x:Itm):Prop:=x.nm.size≤maxLen∧x.ks.length≤maxLen∧ ∀k∈x.ks,PK.small k
theorem aIT:aBW Tryz.prog 9 (fun s:ByteArray=>s.size≤maxLen) (fun s=>[.str s]):=aBW.str (P:=Tryz.prog) (t:=9) Tryz.underlying9
theorem aDA:aBW Tryz.prog 117 (fun xs:List PK=>xs.length≤maxLen∧ ∀x∈xs,PK.small x) (fun xs=>[.view none (.typ .pk xs) xs.length 8 none]):=
 aBW.typ (P:=Tryz.prog) (τ:=.pk) (t:=117) (e:=201) (ok:=PK.small) aDP Tryz.underlying117 (by kernel_rfl)
theorem aEE:aBW Tryz.prog 119 Itm.small (Ty.cells .itm):=by
 refine⟨fun {H enc w base spare held fuel cs x} h=> ?_⟩
 obtain⟨xs,n,-,-,hl,hx,hf⟩:=DataW.trod_struct Tryz.underlying119 h
 have c1:Tryz.prog.cellsOf 9=1:=by kernel_rfl
 have c2:Tryz.prog.cellsOf 117=1:=by kernel_rfl
 have c3:Tryz.prog.cellsOf 119=2:=by kernel_rfl
 obtain⟨s,o1,r0⟩:=aBW.field hx hf (i:=0) rfl aIT
 obtain⟨ks,⟨o2,o3⟩,r1⟩:=aBW.field hx hf (i:=1) rfl aDA
 refine⟨⟨s,ks⟩,⟨o1,o2,o3⟩,hl.trans c3,fun i hi=> ?_⟩
 rw[hl,c3]at hi
 match i,hi with
 |0,_=>exact r0 0 (by simp) (aBX c1 (by omega))
 |1,_=>exact r1 0 (by simp) (aBX c2 (by omega))
def Shf.small (x:Int×List Itm):Prop:=x.2.length≤maxLen∧ ∀i∈x.2,Itm.small i
def aDG (x:Int×List Itm):List aI:=[.int .i64 x.1,.view none (.typ .itm x.2) x.2.length 2 none]
theorem aDO:aBW Tryz.prog 22 (fun xs:List Itm=>xs.length≤maxLen∧ ∀x∈xs,Itm.small x) (fun xs=>[.view none (.typ .itm xs) xs.length 2 none]):=
 aBW.typ (P:=Tryz.prog) (τ:=.itm) (t:=22) (e:=119) (ok:=Itm.small) aEE Tryz.underlying22 (by kernel_rfl)
theorem aDB:aBW Tryz.prog 24 Shf.small aDG:=by
 refine⟨fun {H enc w base spare held fuel cs x} h=> ?_⟩
 obtain⟨xs,n,-,-,hl,hx,hf⟩:=DataW.trod_struct Tryz.underlying24 h
 have c1:Tryz.prog.cellsOf 3=1:=by kernel_rfl
 have c2:Tryz.prog.cellsOf 22=1:=by kernel_rfl
 have c3:Tryz.prog.cellsOf 24=2:=by kernel_rfl
 obtain⟨q,-,r0⟩:=aBW.field hx hf (i:=0) rfl aEZ
 obtain⟨its,o,r1⟩:=aBW.field hx hf (i:=1) rfl aDO
 refine⟨(q,its),o,hl.trans c3,fun i hi=> ?_⟩
 rw[hl,c3]at hi
 match i,hi with
 |0,_=>exact r0 0 (by simp) (aBX c1 (by omega))
 |1,_=>exact r1 0 (by simp) (aBX c2 (by omega))
end
section
theorem aHF {x:Int×List Itm} (h:Shf.small x):F6 x.2=true:=by
 simp only[F6,Itm.sm,uX,PK.sm,Bool.and_eq_true,rpS,decide_eq_true_eq,List.all_eq_true]
 refine⟨h.1,fun y hy=> ?_⟩
 obtain⟨h1,h2,h3⟩:=h.2 y hy
 exact⟨h1,h2,fun z hz=>h3 z hz⟩
end
end Go.Proofs.YtdnfojanjejdgaaGreat.Am
