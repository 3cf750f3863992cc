/- DERIVED. Part 19 of the proof: L2, C83, C84, C92. No statement of the program is proved here. -/
import Derived.Test.YthapjdpkelihiaaGreatX18
import Derived.Deep.Slices
set_option linter.unusedSimpArgs false
set_option linter.unusedVariables false
set_option linter.unusedSectionVars false
section
namespace Go.Proofs.YthapjdpkelihiaaGreat.Am
open Go.RowKit Go.Deep Go.ChangeShapes Go.WideShapes
abbrev VR (w:World) (c:Cell) (v:Value):Prop:=CR0 w (fun b=>liveB noIds b∨False) noIds c v
structure Reads (P:Program) (t:TypeId) {α:Type} (ok:α→Prop) (cells:α→List Cell):Prop where
 rd: ∀ {H:Type} {enc:TypeId×Value→H} {w:World} {base:Nat} {spare:Nat→Bool} {held:Bool} {fuel:Nat} {cs:List Value} {x:DataW H×List MemPlace},
  DataW.trod enc P w base spare held fuel t cs=some x→ ∃a,ok a∧cs.length=(cells a).length∧ ∀i,i<cs.length→VR w ((cells a).getD i .any) (cs.getD i undef)
variable {P : Program} {t e : TypeId}
theorem Reads.int {k:IntKind} (hu:P.underlying t=some (.int k)):Reads P t (fun n=>(Lit.int k n).wf=true) (fun n=>[.int k n]):=by
 refine⟨fun {H enc w base spare held fuel cs x} h=> ?_⟩
 obtain⟨m,rfl,rfl,hw⟩:=DataW.trod_int hu h
 exact⟨m,hw,rfl,fun i hi=>by
  match i,hi with
  |0,_=>exact .int k m⟩
theorem Reads.bool (hu:P.underlying t=some .bool):Reads P t (fun _=>True) (fun b=>[.bool b]):=by
 refine⟨fun {H enc w base spare held fuel cs x} h=> ?_⟩
 obtain⟨b,rfl,rfl⟩:=DataW.trod_bool hu h
 exact⟨b,trivial,rfl,fun i hi=>by
  match i,hi with
  |0,_=>exact .bool b⟩
theorem view_of {w:World} {x:Addr} {len cap es:Nat} {c:Con} {u:Nat→Value} (he:0<es) (hz:len*es=c.size) (hl:len≤cap) (hcell: ∀q,q<c.size→w.cell? (x.add q)=some (u q)) (hu: ∀q,q<c.size→VR w (c.cell q) (u q)):VR w (.view none c len es none) (.slice (some x) len cap):=by
 by_cases h0:0<c.size
 ·obtain⟨b,off,spot⟩:=x
  have hspot:spot=none:=by simpa [Addr.add]using World.cell?_spot (hcell 0 h0)
  subst hspot
  refine .view none c len es none b off cap u (fun _ h=> ?_) (fun q hq=> ?_) hu hz hl (fun _ h=>by cases h) (fun _ h=>by cases h)
  ·rcases h with⟨id,h⟩|h
   ·cases h
   ·exact h
  ·have:=hcell q hq
   have ea:(⟨b,off,none⟩:Addr).add q=⟨b,off+q,none⟩:=by
    unfold Addr.add
    split
    ·rename_i h0;subst h0;rfl
    ·rfl
   rwa[ea]at this
 ·have h1:c.size=0:=by omega
  have hl0:len=0:=by
   rcases Nat.eq_zero_or_pos len with h|h
   ·exact h
   ·have:=Nat.mul_pos h he;omega
  subst hl0
  exact .viewNone none c es none (some x) cap h1 (fun _ h=>by cases h) (fun _ h=>by cases h) (fun h=>by cases h)
theorem nil_view {w:World} {es:Nat} {c:Con} (hc:c.size=0):VR w (.view none c 0 es none) (.slice none 0 0):=
 .viewNone none c es none none 0 hc (fun _ h=>by cases h) (fun _ h=>by cases h) (fun _=>rfl)
theorem Reads.ints {k:IntKind} (hs:P.underlying t=some (.slice e)) (hu:P.underlying e=some (.int k)) (hc:P.cellsOf e=1):
  Reads P t (fun a=>a.length≤maxLen) (fun a=>[.view none (.ints k a) a.length 1 none]):=by
 refine⟨fun {H enc w base spare held fuel cs x} h=> ?_⟩
 rcases open_slice1 hs hc h with⟨rfl,-⟩|⟨a,len,cap,m,n,V,D,Pl,rfl,-,hl,hm,hmm,-,hi⟩
 ·exact⟨[],Nat.zero_le _,rfl,fun i hi=>by
   match i,hi with
   |0,_=>exact nil_view rfl⟩
 ·have hg: ∀i,i<len→ ∃z,V i=.int k z:=fun i hl'=>by
   have hlm:i<m:=by rw[hmm];split<;>omega
   obtain⟨z,hz,-⟩:=DataW.trod_int hu (hi i hlm).2
   exact⟨z,by simpa using hz⟩
  refine⟨(List.range len).map fun i=>match V i with|.int _ z=>z|_=>0,by simp;omega,rfl,fun i hi'=> ?_⟩
  match i,hi' with
  |0,_=>
   have hsz:(Con.ints k ((List.range len).map fun i=>match V i with|.int _ z=>z|_=>0)).size=len:=by simp[Con.size]
   have hv:=view_of (w:=w) (x:=a) (len:=len) (cap:=cap) (es:=1) (c:=.ints k ((List.range len).map fun i=>match V i with|.int _ z=>z|_=>0)) (u:=V) (by omega) (by rw[hsz];omega) hl
    (fun q hq=>by
     rw[hsz]at hq
     have hlm:q<m:=by rw[hmm];split<;>omega
     exact(hi q hlm).1) (fun q hq=>by
     rw[hsz]at hq
     obtain⟨z,hz⟩:=hg q hq
     have e:(Con.ints k ((List.range len).map fun i=>match V i with|.int _ z=>z|_=>0)).cell q=.int k z:=by
      show Cell.int k _=_
      rw[List.getD_eq_getElem?_getD,List.getElem?_map,List.getElem?_range hq]
      simp[hz]
     rw[e,hz];exact .int k z)
   simpa using hv
theorem Reads.bools (hs:P.underlying t=some (.slice e)) (hu:P.underlying e=some .bool) (hc:P.cellsOf e=1):
  Reads P t (fun a=>a.length≤maxLen) (fun a=>[.view none (.bools a) a.length 1 none]):=by
 refine⟨fun {H enc w base spare held fuel cs x} h=> ?_⟩
 rcases open_slice1 hs hc h with⟨rfl,-⟩|⟨a,len,cap,m,n,V,D,Pl,rfl,-,hl,hm,hmm,-,hi⟩
 ·exact⟨[],Nat.zero_le _,rfl,fun i hi=>by
   match i,hi with
   |0,_=>exact nil_view rfl⟩
 ·have hg: ∀i,i<len→ ∃z,V i=.bool z:=fun i hl'=>by
   have hlm:i<m:=by rw[hmm];split<;>omega
   obtain⟨z,hz,-⟩:=DataW.trod_bool hu (hi i hlm).2
   exact⟨z,by simpa using hz⟩
  refine⟨(List.range len).map fun i=>match V i with|.bool z=>z|_=>false,by simp;omega,rfl,fun i hi'=> ?_⟩
  match i,hi' with
  |0,_=>
   have hsz:(Con.bools ((List.range len).map fun i=>match V i with|.bool z=>z|_=>false)).size=len:=by simp[Con.size]
   have hv:=view_of (w:=w) (x:=a) (len:=len) (cap:=cap) (es:=1) (c:=.bools ((List.range len).map fun i=>match V i with|.bool z=>z|_=>false)) (u:=V) (by omega) (by rw[hsz];omega) hl
    (fun q hq=>by
     rw[hsz]at hq
     have hlm:q<m:=by rw[hmm];split<;>omega
     exact(hi q hlm).1) (fun q hq=>by
     rw[hsz]at hq
     obtain⟨z,hz⟩:=hg q hq
     have e:(Con.bools ((List.range len).map fun i=>match V i with|.bool z=>z|_=>false)).cell q=.bool z:=by
      show Cell.bool _=_
      rw[List.getD_eq_getElem?_getD,List.getElem?_map,List.getElem?_range hq]
      simp[hz]
     rw[e,hz];exact .bool z)
   simpa using hv
theorem getD_cut {cs:List Value} {o s j:Nat} (hj:j<s):((cs.drop o).take s).getD j undef=cs.getD (o+j) undef:=by
 rw[List.getD_eq_getElem?_getD,List.getD_eq_getElem?_getD,List.getElem?_take,if_pos hj,List.getElem?_drop]
theorem lt_cells {m j:Nat} (h:P.cellsOf t=m) (hj:j<m):j<P.cellsOf t:=by omega
theorem Reads.field {H:Type} {enc:TypeId×Value→H} {w:World} {base:Nat} {spare:Nat→Bool} {held:Bool} {n:Nat} {cs:List Value} {fs:Array Field} {xs:List (DataW H×List MemPlace)} {α:Type} {ok:α→Prop} {cells:α→List Cell}
  (hl:xs.length=fs.size) (hf: ∀(i:Nat) (f:Field),fs[i]? =some f→DataW.trod enc P w base spare held n f.type ((cs.drop f.offset).take (P.cellsOf f.type))=xs[i]?) {i:Nat} {f:Field} (hi:fs[i]? =some f) (R:Reads P f.type ok cells):
  ∃a,ok a∧ ∀j,j<(cells a).length→j<P.cellsOf f.type→VR w ((cells a).getD j .any) (cs.getD (f.offset+j) undef):=by
 have h:=hf i f hi
 have hil:i<fs.size:=(Array.getElem?_eq_some_iff.1 hi).1
 rw[List.getElem?_eq_getElem (by omega)]at h
 obtain⟨a,h1,h2,h3⟩:=R.rd h
 refine⟨a,h1,fun j hj hj2=> ?_⟩
 have:=h3 j (by omega)
 rwa[getD_cut hj2]at this
def stCells (s:Int×List Int×List Int×List Bool):List Cell:=[.int .i64 s.1,.view none (.ints .i64 s.2.1) s.2.1.length 1 none,.view none (.ints .i64 s.2.2.1) s.2.2.1.length 1 none,.view none (.bools s.2.2.2) s.2.2.2.length 1 none]
theorem rInt:Reads Tryz.prog 3 (fun n=>(Lit.int .i64 n).wf=true) (fun n=>[.int .i64 n]):=Reads.int (P:=Tryz.prog) (t:=3) (k:=.i64) Tryz.underlying3
theorem rBool:Reads Tryz.prog 4 (fun _=>True) (fun b=>[.bool b]):=Reads.bool (P:=Tryz.prog) (t:=4) Tryz.underlying4
theorem rInts:Reads Tryz.prog 23 (fun a=>a.length≤maxLen) (fun a=>[.view none (.ints .i64 a) a.length 1 none]):=Reads.ints (P:=Tryz.prog) (t:=23) (k:=.i64) Tryz.underlying23 Tryz.underlying3 (by kernel_rfl)
theorem rBools:Reads Tryz.prog 24 (fun a=>a.length≤maxLen) (fun a=>[.view none (.bools a) a.length 1 none]):=Reads.bools (P:=Tryz.prog) (t:=24) Tryz.underlying24 Tryz.underlying4 (by kernel_rfl)
theorem readsStripe:Reads Tryz.prog 48 (fun s:Int×List Int×List Int×List Bool=>s.2.1.length≤maxLen∧s.2.2.1.length≤maxLen∧s.2.2.2.length≤maxLen) stCells:=by
 refine⟨fun {H enc w base spare held fuel cs x} h=> ?_⟩
 obtain⟨xs,n,-,-,hl,hx,hf⟩:=DataW.trod_struct Tryz.underlying48 h
 have c1:Tryz.prog.cellsOf 3=1:=by kernel_rfl
 have c2:Tryz.prog.cellsOf 23=1:=by kernel_rfl
 have c3:Tryz.prog.cellsOf 24=1:=by kernel_rfl
 have c4:Tryz.prog.cellsOf 48=4:=by kernel_rfl
 obtain⟨k,-,r0⟩:=Reads.field hx hf (i:=0) rfl rInt
 obtain⟨a,o1,r1⟩:=Reads.field hx hf (i:=1) rfl rInts
 obtain⟨b,o2,r2⟩:=Reads.field hx hf (i:=2) rfl rInts
 obtain⟨c,o3,r3⟩:=Reads.field hx hf (i:=3) rfl rBools
 refine⟨(k,a,b,c),⟨o1,o2,o3⟩,hl.trans c4,fun i hi=> ?_⟩
 rw[hl,c4]at hi
 match i,hi with
 |0,_=>exact r0 0 (by simp) (lt_cells c1 (by omega))
 |1,_=>exact r1 0 (by simp) (lt_cells c2 (by omega))
 |2,_=>exact r2 0 (by simp) (lt_cells c2 (by omega))
 |3,_=>exact r3 0 (by simp) (lt_cells c3 (by omega))
theorem mxl {n:Nat} (h:n≤maxLen):n≤9223372036854775807:=h
def PK.small (x:PK):Prop:=x.a.length≤9223372036854775807∧x.b.length≤9223372036854775807∧x.c.length≤9223372036854775807∧x.d.length≤9223372036854775807
theorem readsKeep:Reads Tryz.prog 50 PK.small PK.vcells:=by
 refine⟨fun {H enc w base spare held fuel cs x} h=> ?_⟩
 obtain⟨xs,n,-,-,hl,hx,hf⟩:=DataW.trod_struct Tryz.underlying50 h
 have c1:Tryz.prog.cellsOf 3=1:=by kernel_rfl
 have c2:Tryz.prog.cellsOf 23=1:=by kernel_rfl
 have c3:Tryz.prog.cellsOf 4=1:=by kernel_rfl
 have c4:Tryz.prog.cellsOf 48=4:=by kernel_rfl
 have c5:Tryz.prog.cellsOf 50=8:=by kernel_rfl
 obtain⟨s,⟨o1,o2,o3⟩,r0⟩:=Reads.field hx hf (i:=0) rfl readsStripe
 obtain⟨on,-,r1⟩:=Reads.field hx hf (i:=1) rfl rBool
 obtain⟨kd,-,r2⟩:=Reads.field hx hf (i:=2) rfl rInt
 obtain⟨d,o4,r3⟩:=Reads.field hx hf (i:=3) rfl rInts
 obtain⟨vs,-,r4⟩:=Reads.field hx hf (i:=4) rfl rInt
 refine⟨⟨s.1,s.2.1,s.2.2.1,s.2.2.2,on,kd,d,vs⟩,⟨mxl o1,mxl o2,mxl o3,mxl o4⟩,hl.trans c5,fun i hi=> ?_⟩
 rw[hl,c5]at hi
 match i,hi with
 |0,_=>exact r0 0 (by simp[stCells]) (lt_cells c4 (by omega))
 |1,_=>exact r0 1 (by simp[stCells]) (lt_cells c4 (by omega))
 |2,_=>exact r0 2 (by simp[stCells]) (lt_cells c4 (by omega))
 |3,_=>exact r0 3 (by simp[stCells]) (lt_cells c4 (by omega))
 |4,_=>exact r1 0 (by simp) (lt_cells c3 (by omega))
 |5,_=>exact r2 0 (by simp) (lt_cells c1 (by omega))
 |6,_=>exact r3 0 (by simp) (lt_cells c2 (by omega))
 |7,_=>exact r4 0 (by simp) (lt_cells c1 (by omega))
theorem Reads.agg {H:Type} {enc:TypeId×Value→H} {w:World} {base:Nat} {spare:Nat→Bool} {held:Bool} {v:Value} {d:DataW H} {p:List MemPlace} {fs:Array Field} {α:Type} {ok:α→Prop} {cells:α→List Cell} {r:Reach} {b0:Nat}
  (R:Reads P t ok cells) (hs:P.underlying t=some (.struct fs)) (hv:Value.okWide P w r b0 t v) (h:DataW.Trod enc P w base spare held t v d p): ∃a,ok a∧AVR (fun _=>False) w noIds (.agg (cells a)) v:=by
 obtain⟨cs,rfl,hsz⟩:=okWide_struct hs hv
 obtain⟨fuel,hf⟩:=h
 obtain⟨a,h1,h2,h3⟩:=R.rd hf
 simp only[Value.cells]at h2 h3
 refine⟨a,h1,.agg _ _ (by simpa using h2) fun i hi=> ?_⟩
 have:=h3 i (by omega)
 simpa [List.getD_eq_getElem?_getD,Array.getD_eq_getD_getElem?]using this
theorem calls_of {f:FuncId} {avs:List AV} (hm:Meets Tryz.prog f avs [] (.c (.bool true)) []) {W:World} {vs:List Value} (hl:vs.length=avs.length) (hv: ∀q,q<avs.length→AVR (fun _=>False) W noIds (avs.getD q .any) (vs.getD q undef)):
  Calls Tryz.prog f ⟨vs⟩ W fun e w'=>e=.returned (.bool true)∧Below W.heap.size W w':=by
 refine Calls.mono (hm.2 (mem0 W) vs hl hv) ?_
 rintro e w' ⟨v,ρ',rfl,mb,im,m',hr⟩
 refine⟨?_,m'.os,m'.tape,m'.output,m'.size,fun k hk=>m'.keep k hk fun⟨id,h⟩=>by cases h⟩
 cases hr with
 |c x v hx=>cases hx;rfl
end Go.Proofs.YthapjdpkelihiaaGreat.Am
end
section
namespace Go.Proofs.YthapjdpkelihiaaGreat.Am
theorem rn_ext {α:Type} {d:α} {n:Nat} {st:Nat→List α→List α} {a:List α} {g:Nat→α} (ha:a.length=n) (hs: ∀i c,st i c=c.set i (g i)):(runN st n 0 a).length=n∧ ∀i,i<n→(runN st n 0 a).getD i d=g i:=by
 have key:=runN_inv0 (step:=st) (fun m c=>c.length=n∧ ∀i,i<m→c.getD i d=g i) n a ⟨ha,fun i hi=>by omega⟩ fun m c hm ⟨h1,h2⟩=>⟨by rw[hs,List.length_set];exact h1,fun i hi=>by
  rw[hs,List.getD_eq_getElem?_getD,List.getElem?_set]
  by_cases e:m=i
  ·subst e;rw[if_pos rfl,if_pos (by omega)];rfl
  ·rw[if_neg e,←List.getD_eq_getElem?_getD];exact h2 i (by omega)⟩
 exact key
theorem rn_eq {α:Type} {d:α} {st:Nat→List α→List α} {a b:List α} (ha:b.length=a.length) (hs: ∀i c,st i c=c.set i (a.getD i d)):runN st a.length 0 b=a:=by
 obtain⟨h1,h2⟩:=rn_ext (d:=d) ha hs
 exact ext_getD (d:=d) h1 fun i hi=>h2 i (by omega)
noncomputable abbrev fTI:=Tryz.f88
noncomputable def IfTI (a c:List Int) (i:Int):St:=stOf fTI.ntmps [(0,.c (.view none (.ints .i64 a) a.length 1 none)),(3,.c (.sl 0 0 a.length 1 none)),(4,.c (.int .i64 i))] [.live (.ints .i64 c)]
noncomputable def XfTI (n:Nat) (c:List Int):St:=stOf fTI.ntmps [(3,.c (.sl 0 0 n 1 none))] [.live (.ints .i64 c)]
theorem rfTI_1 (a c:List Int) (i:Int):roundR 0 (liveH fTI 0) (liveB' fTI 0) (evalC tt (ctOf T77) ([]) 0 100 (bodyAt 0 (codeOf fTI)) (IfTI a c i) [(0,true)])=
  some (.normal,(decide (i<(↑a.length:Int))&&(decide (0≤i)&&(decide (i<(↑a.length:Int))&&(decide (i.toNat<a.length)&&(decide (0≤i)&&(decide (i<(↑a.length:Int))&&((decide (i.toNat<c.length))&&true))))))),[],IfTI a (c.set i.toNat (a.getD i.toNat 0)) (IntKind.i64.wrap (i+1))):=by kernel_rfl
theorem rfTI_2 (a c:List Int) (i:Int):roundR 0 (liveH fTI 0) (liveB' fTI 0) (evalC tt (ctOf T77) ([]) 0 100 (bodyAt 0 (codeOf fTI)) (IfTI a c i) [(0,false)])=
  some (.exit 0,((!decide (i<(↑a.length:Int)))&&true),[],XfTI a.length c):=by kernel_rfl
theorem xfTI_1 (a:List Int):evalF tt (ctOf T77) ([(0,⟨liveH fTI 0,IfTI a (List.replicate a.length 0) 0,.normal,XfTI a.length a⟩)]) 100 fTI [.c (.view none (.ints .i64 a) a.length 1 none)] [] []=
  some ⟨.c (.sl 0 0 a.length 1 none),[.live (.ints .i64 a)],(decide ((↑a.length:Int)≤(↑a.length:Int))&&((decide ((↑a.length:Int)≤274877906944))&&true)),[IfTI a (List.replicate a.length 0) 0=IfTI a (List.replicate a.length 0) 0]⟩:=by kernel_rfl
def cpI (a:List Int) (i:Nat) (c:List Int):List Int:=c.set i (a.getD i 0)
theorem lfTI (a:List Int) (hn:a.length≤274877906944):
  Good Tryz.prog 0 (.block 0 (.loop (bodyAt 0 (codeOf fTI)))) (IfTI a (List.replicate a.length 0) 0) fun e t=>e=.normal∧t=XfTI a.length a:=by
 have key:=Good.count hT t77 hmix (m:=0) (id:=0) (body:=bodyAt 0 (codeOf fTI)) (β:=List Int) a.length (fun _ c=>c.length=a.length) (fun i c=>IfTI a c i) (fun c=>XfTI a.length c) (cpI a) (liveH fTI 0) (liveB' fTI 0) (fun _ _=>[]) (fun _ _ _ _=>LcOk.nil) (fun i c hi hc=>⟨by unfold cpI;rw[List.length_set];exact hc, ?_⟩) (fun c _=>⟨_,_,⟨_,_,rfTI_2 a c a.length,by simp,by simp⟩⟩) (List.replicate a.length 0) (by simp)
 ·have er:runN (cpI a) a.length 0 (List.replicate a.length 0)=a:=rn_eq (d:=0) (by simp) (fun _ _=>rfl)
  rw[er]at key
  exact key
 ·have e:=rfTI_1 a c i
  rw[wrap_small (by omega) (by omega),Int.toNat_natCast]at e
  refine⟨_,_,⟨_,_,e, ?_,by simp⟩⟩
  simp only[hc,bS]
  omega
def FFtoI:Model:=fun args h=>
 match args,h with
 |[.c (.view _ (.ints .i64 a) n1 1 _)],[]=>
  some (.c (.sl 0 0 a.length 1 none),[.live (.ints .i64 a)],[decide (a.length≤274877906944)])
 |_,_=>none
theorem mfTI:ModelN Tryz.prog 88 FFtoI:=by
 intro args h res h' o hnorm he ho
 unfold FFtoI at he
 split at he
 case h_2=>cases he
 rename_i nl a n1 cap
 simp only[Option.some.injEq,Prod.mk.injEq]at he
 obtain⟨rfl,rfl,rfl⟩:=he
 simp only[List.mem_cons,List.not_mem_nil,or_false,forall_eq_or_imp,forall_eq,decide_eq_true_eq]at ho
 have o1:=ho
 simp only[normA,AV.norm,normL,Cell.norm,Con.size,List.cons.injEq,AV.c.injEq,AV.agg.injEq,Cell.view.injEq,nlen_one,true_and,and_true]at hnorm
 obtain⟨rfl,rfl,rfl⟩:=hnorm
 exact meets_of t77 (fn:=fTI) (by kernel_rfl) (by kernel_rfl) (xfTI_1 a) (by simp;omega) (by simp) (fun cc hcc=>LcOk.cons (c:=cc) (by cases hcc;kernel_rfl) (by cases hcc;exact lfTI a o1) LcOk.nil)
noncomputable abbrev fMI:=Tryz.f93
noncomputable def IfMI (n:Nat) (k:Int) (c:List Int) (i:Int):St:=stOf fMI.ntmps [(0,.c (.sl 0 0 n 1 none)),(1,.c (.int .i64 k)),(5,.c (.int .i64 i))] [.live (.ints .i64 c)]
noncomputable def XfMI (k:Int) (c:List Int):St:=stOf fMI.ntmps [(1,.c (.int .i64 k))] [.live (.ints .i64 c)]
theorem rfMI_1 (n:Nat) (k:Int) (c:List Int) (i:Int):roundR 1 (liveH fMI 0) (liveB' fMI 0) (evalC tt (ctOf T77) ([]) 1 100 (bodyAt 0 (codeOf fMI)) (IfMI n k c i) [(0,true)])=
  some (.normal,(decide (i<(↑n:Int))&&(decide (0≤i)&&(decide (i<(↑n:Int))&&((decide (i.toNat<c.length))&&true)))),[],IfMI n (IntKind.i64.wrap (k+1)) (c.set i.toNat k) (IntKind.i64.wrap (i+1))):=by kernel_rfl
theorem rfMI_2 (n:Nat) (k:Int) (c:List Int) (i:Int):roundR 1 (liveH fMI 0) (liveB' fMI 0) (evalC tt (ctOf T77) ([]) 1 100 (bodyAt 0 (codeOf fMI)) (IfMI n k c i) [(0,false)])=
  some (.exit 0,((!decide (i<(↑n:Int)))&&true),[],XfMI k c):=by kernel_rfl
theorem xfMI_1 (a c:List Int) (k k':Int):evalF tt (ctOf T77) ([(0,⟨liveH fMI 0,IfMI a.length k a 0,.normal,XfMI k' c⟩)]) 100 fMI [.c (.sl 0 0 a.length 1 none),.c (.int .i64 k)] [.live (.ints .i64 a)] []=
  some ⟨.c (.int .i64 k'),[.live (.ints .i64 c)],true,[IfMI a.length k a 0=IfMI a.length k a 0]⟩:=by kernel_rfl
def mkSI (k:Int) (i:Nat) (c:List Int):List Int:=c.set i (k+(i:Int))
def mkLI (k:Int) (a:List Int):List Int:=runN (mkSI k) a.length 0 a
theorem mkLI_spec (k:Int) (a:List Int):(mkLI k a).length=a.length∧ ∀i,i<a.length→(mkLI k a).getD i 0=(k+(i:Int)):=rn_ext rfl fun _ _=>rfl
theorem lfMI (a:List Int) (k:Int) (hn:a.length≤274877906944) (hk:0≤k) (hk2:k≤4611686018427387904):
  Good Tryz.prog 1 (.block 0 (.loop (bodyAt 0 (codeOf fMI)))) (IfMI a.length k a 0) fun e t=>e=.normal∧t=XfMI (k+(a.length:Int)) (mkLI k a):=by
 have key:=Good.count hT t77 hmix (m:=1) (id:=0) (body:=bodyAt 0 (codeOf fMI)) (β:=List Int) a.length (fun _ c=>c.length=a.length) (fun i c=>IfMI a.length (k+(i:Int)) c i) (fun c=>XfMI (k+(a.length:Int)) c) (mkSI k) (liveH fMI 0) (liveB' fMI 0) (fun _ _=>[]) (fun _ _ _ _=>LcOk.nil) (fun i c hi hc=>⟨by unfold mkSI;rw[List.length_set];exact hc, ?_⟩) (fun c _=>⟨_,_,⟨_,_,rfMI_2 a.length (k+(a.length:Int)) c a.length,by simp,by simp⟩⟩) a rfl
 ·unfold mkLI;simpa using key
 ·have e:=rfMI_1 a.length (k+(i:Int)) c i
  rw[wrap_small (i:=(i:Int)+1) (by omega) (by omega),wrap_small (i:=k+(i:Int)+1) (by omega) (by omega),Int.toNat_natCast,show k+(i:Int)+1=k+((i+1:Nat):Int)from by omega]at e
  refine⟨_,_,⟨_,_,e, ?_,by simp⟩⟩
  simp only[hc,bS]
  first|omega|(simp;omega)
def FFmkI:Model:=fun args h=>
 match args,h with
 |[.c (.sl 0 0 n 1 none),.c (.int .i64 k)],[.live (.ints .i64 a)]=>
  some (.c (.int .i64 (k+(a.length:Int))),[.live (.ints .i64 (mkLI k a))],[decide (a.length≤274877906944),decide (n=a.length),decide (0≤k),decide (k≤4611686018427387904)])
 |_,_=>none
theorem mfMI:ModelOk Tryz.prog 93 FFmkI:=by
 intro args h res h' o he ho
 unfold FFmkI at he
 split at he
 case h_2=>cases he
 rename_i n k a
 simp only[Option.some.injEq,Prod.mk.injEq]at he
 obtain⟨rfl,rfl,rfl⟩:=he
 simp only[List.mem_cons,List.not_mem_nil,or_false,forall_eq_or_imp,forall_eq,decide_eq_true_eq]at ho
 obtain⟨o1,o2,o3,o4⟩:=ho
 subst o2
 exact meets_of t77 (fn:=fMI) (by kernel_rfl) (by kernel_rfl) (xfMI_1 a (mkLI k a) k (k+(a.length:Int))) (by simp) (by simp) (fun cc hcc=>LcOk.cons (c:=cc) (by cases hcc;kernel_rfl) (by cases hcc;exact lfMI a k o1 o3 o4) LcOk.nil)
noncomputable abbrev fHI:=Tryz.f95
noncomputable def IfHI (a:List Int) (k i:Int):St:=stOf fHI.ntmps [(0,.c (.view none (.ints .i64 a) a.length 1 none)),(1,.c (.int .i64 k)),(5,.c (.int .i64 i))] []
noncomputable def XfHI (k:Int):St:=stOf fHI.ntmps [(1,.c (.int .i64 k))] []
theorem rfHI_2 (a:List Int) (k i:Int):roundR 0 (liveH fHI 0) (liveB' fHI 0) (evalC tt (ctOf T77) ([]) 0 100 (bodyAt 0 (codeOf fHI)) (IfHI a k i) [(0,true),(0,false)])=
  some (.normal,(decide (i<(↑a.length:Int))&&(decide (0≤i)&&(decide (i<(↑a.length:Int))&&(decide (i.toNat<a.length)&&((!a.getD i.toNat 0 !=k)&&true))))),[],IfHI a (IntKind.i64.wrap (k+1)) (IntKind.i64.wrap (i+1))):=by kernel_rfl
theorem rfHI_3 (a:List Int) (k i:Int):roundR 0 (liveH fHI 0) (liveB' fHI 0) (evalC tt (ctOf T77) ([]) 0 100 (bodyAt 0 (codeOf fHI)) (IfHI a k i) [(0,false)])=
  some (.exit 0,((!decide (i<(↑a.length:Int)))&&true),[],XfHI k):=by kernel_rfl
theorem xfHI_1 (a:List Int) (k k':Int):evalF tt (ctOf T77) ([(0,⟨liveH fHI 0,IfHI a k 0,.normal,XfHI k'⟩)]) 100 fHI [.c (.view none (.ints .i64 a) a.length 1 none),.c (.int .i64 k)] [] []=
  some ⟨.c (.int .i64 k'),[],true,[IfHI a k 0=IfHI a k 0]⟩:=by kernel_rfl
def hdI (k:Int) (a:List Int):Bool:=allR (fun i=>a.getD i 0==(k+(i:Int))) a.length 0
theorem hdI_mk (k:Int) (a:List Int):hdI k (mkLI k a)=true:=by
 obtain⟨h1,h2⟩:=mkLI_spec k a
 unfold hdI
 rw[allR_spec]
 intro i _ hi
 rw[h2 i (by omega),beq_self_eq_true]
theorem lfHI (a:List Int) (k:Int) (hn:a.length≤274877906944) (hk:0≤k) (hk2:k≤4611686018427387904) (hh:hdI k a=true):
  Good Tryz.prog 0 (.block 0 (.loop (bodyAt 0 (codeOf fHI)))) (IfHI a k 0) fun e t=>e=.normal∧t=XfHI (k+(a.length:Int)):=by
 have hh:=allR_spec.1 hh
 have key:=Good.count hT t77 hmix (m:=0) (id:=0) (body:=bodyAt 0 (codeOf fHI)) (β:=Unit) a.length (fun _ _=>True) (fun i _=>IfHI a (k+(i:Int)) i) (fun _=>XfHI (k+(a.length:Int))) (fun _ _=>()) (liveH fHI 0) (liveB' fHI 0) (fun _ _=>[]) (fun _ _ _ _=>LcOk.nil) (fun i _ hi _=>⟨trivial, ?_⟩) (fun _ _=>⟨_,_,⟨_,_,rfHI_3 a (k+(a.length:Int)) a.length,by simp,by simp⟩⟩) () trivial
 ·simpa using key
 ·have hv:=hh i (by omega) (by omega)
  have hv:=beq_iff_eq.1 hv
  have e:=rfHI_2 a (k+(i:Int)) i
  rw[wrap_small (i:=(i:Int)+1) (by omega) (by omega),wrap_small (i:=k+(i:Int)+1) (by omega) (by omega),Int.toNat_natCast,show k+(i:Int)+1=k+((i+1:Nat):Int)from by omega]at e
  refine⟨_,_,⟨_,_,e, ?_,by simp⟩⟩
  simp only[hv,bne_self_eq_false,beq_self_eq_true,bS]
  first|omega|(simp;omega)
def FFhdI:Model:=fun args h=>
 match args,h with
 |[.c (.view _ (.ints .i64 a) n1 1 _),.c (.int .i64 k)],[]=>
  some (.c (.int .i64 (k+(a.length:Int))),[],[decide (a.length≤274877906944),decide (0≤k),decide (k≤4611686018427387904),hdI k a])
 |_,_=>none
theorem mfHI:ModelN Tryz.prog 95 FFhdI:=by
 intro args h res h' o hnorm he ho
 unfold FFhdI at he
 split at he
 case h_2=>cases he
 rename_i nl a n1 cap k
 simp only[Option.some.injEq,Prod.mk.injEq]at he
 obtain⟨rfl,rfl,rfl⟩:=he
 simp only[List.mem_cons,List.not_mem_nil,or_false,forall_eq_or_imp,forall_eq,decide_eq_true_eq]at ho
 obtain⟨o1,o2,o3,o4⟩:=ho
 simp only[normA,AV.norm,normL,Cell.norm,Con.size,List.cons.injEq,AV.c.injEq,AV.agg.injEq,Cell.view.injEq,nlen_one,true_and,and_true]at hnorm
 obtain⟨rfl,rfl,rfl⟩:=hnorm
 exact meets_of t77 (fn:=fHI) (by kernel_rfl) (by kernel_rfl) (xfHI_1 a k (k+(a.length:Int))) (by simp) (by simp) (fun cc hcc=>LcOk.cons (c:=cc) (by cases hcc;kernel_rfl) (by cases hcc;exact lfHI a k o1 o2 o3 o4) LcOk.nil)
noncomputable abbrev fEI:=Tryz.f91
noncomputable def IfEI (a:List Int) (i:Int):St:=stOf fEI.ntmps [(0,.c (.view none (.ints .i64 a) a.length 1 none)),(1,.c (.view none (.ints .i64 a) a.length 1 none)),(5,.c (.int .i64 i))] []
noncomputable def XfEI:St:=stOf fEI.ntmps [] []
theorem rfEI_2 (a:List Int) (i:Int):roundR 0 (liveH fEI 0) (liveB' fEI 0) (evalC tt (ctOf T77) ([]) 0 100 (bodyAt 0 (codeOf fEI)) (IfEI a i) [(0,true),(0,false)])=
  some (.normal,(decide (i<(↑a.length:Int))&&(decide (0≤i)&&(decide (i<(↑a.length:Int))&&(decide (i.toNat<a.length)&&(decide (0≤i)&&(decide (i<(↑a.length:Int))&&(decide (i.toNat<a.length)&&((!a.getD i.toNat 0 !=a.getD i.toNat 0)&&true)))))))),[],IfEI a (IntKind.i64.wrap (i+1))):=by kernel_rfl
theorem rfEI_3 (a:List Int) (i:Int):roundR 0 (liveH fEI 0) (liveB' fEI 0) (evalC tt (ctOf T77) ([]) 0 100 (bodyAt 0 (codeOf fEI)) (IfEI a i) [(0,false)])=
  some (.exit 0,((!decide (i<(↑a.length:Int)))&&true),[],XfEI):=by kernel_rfl
theorem xfEI_2 (a:List Int):evalF tt (ctOf T77) ([(0,⟨liveH fEI 0,IfEI a 0,.normal,XfEI⟩)]) 100 fEI [.c (.view none (.ints .i64 a) a.length 1 none),.c (.view none (.ints .i64 a) a.length 1 none)] [] [(0,false)]=
  some ⟨.c (.bool true),[],((!(↑a.length:Int)!=(↑a.length:Int))&&true),[IfEI a 0=IfEI a 0]⟩:=by kernel_rfl
theorem lfEI (a:List Int) (hn:a.length≤274877906944):
  Good Tryz.prog 0 (.block 0 (.loop (bodyAt 0 (codeOf fEI)))) (IfEI a 0) fun e t=>e=.normal∧t=XfEI:=by
 refine Good.count hT t77 hmix (m:=0) (id:=0) (body:=bodyAt 0 (codeOf fEI)) (β:=Unit) a.length (fun _ _=>True) (fun i _=>IfEI a i) (fun _=>XfEI) (fun _ _=>()) (liveH fEI 0) (liveB' fEI 0) (fun _ _=>[]) (fun _ _ _ _=>LcOk.nil) (fun i _ hi _=>⟨trivial, ?_⟩) (fun _ _=>⟨_,_,⟨_,_,rfEI_3 a a.length,by simp,by simp⟩⟩) () trivial
 have e:=rfEI_2 a i
 rw[wrap_small (i:=(i:Int)+1) (by omega) (by omega),Int.toNat_natCast]at e
 refine⟨_,_,⟨_,_,e, ?_,by simp⟩⟩
 simp only[bne_self_eq_false,beq_self_eq_true,bS]
 first|omega|(simp;omega)
def FFeqI:Model:=fun args h=>
 match args,h with
 |[.c (.view _ (.ints .i64 a) n1 1 _),.c (.view _ (.ints .i64 b) n2 1 _)],[]=>
  some (.c (.bool true),[],[decide (a.length≤274877906944),decide (a=b)])
 |_,_=>none
theorem mfEI:ModelN Tryz.prog 91 FFeqI:=by
 intro args h res h' o hnorm he ho
 unfold FFeqI at he
 split at he
 case h_2=>cases he
 rename_i nl a n1 cap nl2 b n2 cap2
 simp only[Option.some.injEq,Prod.mk.injEq]at he
 obtain⟨rfl,rfl,rfl⟩:=he
 simp only[List.mem_cons,List.not_mem_nil,or_false,forall_eq_or_imp,forall_eq,decide_eq_true_eq]at ho
 obtain⟨o1,o2⟩:=ho
 simp only[normA,AV.norm,normL,Cell.norm,Con.size,List.cons.injEq,AV.c.injEq,AV.agg.injEq,Cell.view.injEq,nlen_one,true_and,and_true]at hnorm
 obtain⟨⟨rfl,rfl,rfl⟩,rfl,rfl,rfl⟩:=hnorm
 subst o2
 exact meets_of t77 (fn:=fEI) (by kernel_rfl) (by kernel_rfl) (xfEI_2 a) (by simp) (by simp) (fun cc hcc=>LcOk.cons (c:=cc) (by cases hcc;kernel_rfl) (by cases hcc;exact lfEI a o1) LcOk.nil)
theorem xfZI_1 (a:List Int) (l:Int):evalF tt (ctOf T77) ([]) 100 Tryz.f85 [.c (.view none (.ints .i64 a) a.length 1 none),.c (.int .i64 l)] [] [(0,true)]=
  some ⟨.c (.int .i64 (-1)),[],((decide (IntKind.i64.wrap (l-(↑a.length:Int))<0))&&true),[]⟩:=by kernel_rfl
theorem xfZI_2 (a:List Int) (l:Int):evalF tt (ctOf T77) ([]) 100 Tryz.f85 [.c (.view none (.ints .i64 a) a.length 1 none),.c (.int .i64 l)] [] [(0,false)]=
  some ⟨.c (.int .i64 (IntKind.i64.wrap (l-(↑a.length:Int)))),[],((!decide (IntKind.i64.wrap (l-(↑a.length:Int))<0))&&true),[]⟩:=by kernel_rfl
def szF (l:Int) (n:Nat):Int:=bif decide (l-(n:Int)<0)then -1 else l-(n:Int)
def FFszI:Model:=fun args h=>
 match args,h with
 |[.c (.view _ (.ints .i64 a) n1 1 _),.c (.int .i64 l)],[]=>
  some (.c (.int .i64 (szF l a.length)),[],[decide (a.length≤9223372036854775807),decide (0≤l),decide (l≤1048576)])
 |_,_=>none
theorem mfZI:ModelN Tryz.prog 85 FFszI:=by
 intro args h res h' o hnorm he ho
 unfold FFszI at he
 split at he
 case h_2=>cases he
 rename_i nl a n1 cap l
 simp only[Option.some.injEq,Prod.mk.injEq]at he
 obtain⟨rfl,rfl,rfl⟩:=he
 simp only[List.mem_cons,List.not_mem_nil,or_false,forall_eq_or_imp,forall_eq,decide_eq_true_eq]at ho
 obtain⟨o1,o2,o3⟩:=ho
 simp only[normA,AV.norm,normL,Cell.norm,Con.size,List.cons.injEq,AV.c.injEq,AV.agg.injEq,Cell.view.injEq,nlen_one,true_and,and_true]at hnorm
 obtain⟨rfl,rfl,rfl⟩:=hnorm
 unfold szF
 have w:IntKind.i64.wrap (l-(a.length:Int))=l-(a.length:Int):=by
  simp only[IntKind.wrap,IntKind.bits,IntKind.signed];simp;omega
 cases c:decide (l-(a.length:Int)<0)with
 |true=>exact meets_of t77 (by kernel_rfl) (by kernel_rfl) (xfZI_1 a l) (by rw[w,c];rfl) (by simp) (fun cc _=>LcOk.nil)
 |false=>
  have e:=xfZI_2 a l
  rw[w]at e
  exact meets_of t77 (by kernel_rfl) (by kernel_rfl) e (by rw[c];rfl) (by simp) (fun cc _=>LcOk.nil)
noncomputable abbrev fTB:=Tryz.f138
noncomputable def IfTB (a c:List Bool) (i:Int):St:=stOf fTB.ntmps [(0,.c (.view none (.bools a) a.length 1 none)),(3,.c (.sl 0 0 a.length 1 none)),(4,.c (.int .i64 i))] [.live (.bools c)]
noncomputable def XfTB (n:Nat) (c:List Bool):St:=stOf fTB.ntmps [(3,.c (.sl 0 0 n 1 none))] [.live (.bools c)]
theorem rfTB_1 (a c:List Bool) (i:Int):roundR 0 (liveH fTB 0) (liveB' fTB 0) (evalC tt (ctOf T77) ([]) 0 100 (bodyAt 0 (codeOf fTB)) (IfTB a c i) [(0,true)])=
  some (.normal,(decide (i<(↑a.length:Int))&&(decide (0≤i)&&(decide (i<(↑a.length:Int))&&(decide (i.toNat<a.length)&&(decide (0≤i)&&(decide (i<(↑a.length:Int))&&((decide (i.toNat<c.length))&&true))))))),[],IfTB a (c.set i.toNat (a.getD i.toNat false)) (IntKind.i64.wrap (i+1))):=by kernel_rfl
theorem rfTB_2 (a c:List Bool) (i:Int):roundR 0 (liveH fTB 0) (liveB' fTB 0) (evalC tt (ctOf T77) ([]) 0 100 (bodyAt 0 (codeOf fTB)) (IfTB a c i) [(0,false)])=
  some (.exit 0,((!decide (i<(↑a.length:Int)))&&true),[],XfTB a.length c):=by kernel_rfl
theorem xfTB_1 (a:List Bool):evalF tt (ctOf T77) ([(0,⟨liveH fTB 0,IfTB a (List.replicate a.length false) 0,.normal,XfTB a.length a⟩)]) 100 fTB [.c (.view none (.bools a) a.length 1 none)] [] []=
  some ⟨.c (.sl 0 0 a.length 1 none),[.live (.bools a)],(decide ((↑a.length:Int)≤(↑a.length:Int))&&((decide ((↑a.length:Int)≤274877906944))&&true)),[IfTB a (List.replicate a.length false) 0=IfTB a (List.replicate a.length false) 0]⟩:=by kernel_rfl
def cpB (a:List Bool) (i:Nat) (c:List Bool):List Bool:=c.set i (a.getD i false)
theorem lfTB (a:List Bool) (hn:a.length≤274877906944):
  Good Tryz.prog 0 (.block 0 (.loop (bodyAt 0 (codeOf fTB)))) (IfTB a (List.replicate a.length false) 0) fun e t=>e=.normal∧t=XfTB a.length a:=by
 have key:=Good.count hT t77 hmix (m:=0) (id:=0) (body:=bodyAt 0 (codeOf fTB)) (β:=List Bool) a.length (fun _ c=>c.length=a.length) (fun i c=>IfTB a c i) (fun c=>XfTB a.length c) (cpB a) (liveH fTB 0) (liveB' fTB 0) (fun _ _=>[]) (fun _ _ _ _=>LcOk.nil) (fun i c hi hc=>⟨by unfold cpB;rw[List.length_set];exact hc, ?_⟩) (fun c _=>⟨_,_,⟨_,_,rfTB_2 a c a.length,by simp,by simp⟩⟩) (List.replicate a.length false) (by simp)
 ·have er:runN (cpB a) a.length 0 (List.replicate a.length false)=a:=rn_eq (d:=false) (by simp) (fun _ _=>rfl)
  rw[er]at key
  exact key
 ·have e:=rfTB_1 a c i
  rw[wrap_small (by omega) (by omega),Int.toNat_natCast]at e
  refine⟨_,_,⟨_,_,e, ?_,by simp⟩⟩
  simp only[hc,bS]
  omega
def FFtoB:Model:=fun args h=>
 match args,h with
 |[.c (.view _ (.bools a) n1 1 _)],[]=>
  some (.c (.sl 0 0 a.length 1 none),[.live (.bools a)],[decide (a.length≤274877906944)])
 |_,_=>none
theorem mfTB:ModelN Tryz.prog 138 FFtoB:=by
 intro args h res h' o hnorm he ho
 unfold FFtoB at he
 split at he
 case h_2=>cases he
 rename_i nl a n1 cap
 simp only[Option.some.injEq,Prod.mk.injEq]at he
 obtain⟨rfl,rfl,rfl⟩:=he
 simp only[List.mem_cons,List.not_mem_nil,or_false,forall_eq_or_imp,forall_eq,decide_eq_true_eq]at ho
 have o1:=ho
 simp only[normA,AV.norm,normL,Cell.norm,Con.size,List.cons.injEq,AV.c.injEq,AV.agg.injEq,Cell.view.injEq,nlen_one,true_and,and_true]at hnorm
 obtain⟨rfl,rfl,rfl⟩:=hnorm
 exact meets_of t77 (fn:=fTB) (by kernel_rfl) (by kernel_rfl) (xfTB_1 a) (by simp;omega) (by simp) (fun cc hcc=>LcOk.cons (c:=cc) (by cases hcc;kernel_rfl) (by cases hcc;exact lfTB a o1) LcOk.nil)
noncomputable abbrev fMB:=Tryz.f140
noncomputable def IfMB (n:Nat) (k:Int) (c:List Bool) (i:Int):St:=stOf fMB.ntmps [(0,.c (.sl 0 0 n 1 none)),(1,.c (.int .i64 k)),(5,.c (.int .i64 i))] [.live (.bools c)]
noncomputable def XfMB (k:Int) (c:List Bool):St:=stOf fMB.ntmps [(1,.c (.int .i64 k))] [.live (.bools c)]
theorem rfMB_1 (n:Nat) (k:Int) (c:List Bool) (i:Int):roundR 1 (liveH fMB 0) (liveB' fMB 0) (evalC tt (ctOf T77) ([]) 1 100 (bodyAt 0 (codeOf fMB)) (IfMB n k c i) [(0,true)])=
  some (.normal,(decide (i<(↑n:Int))&&(decide (0≤i)&&(decide (i<(↑n:Int))&&((decide (i.toNat<c.length))&&true)))),[],IfMB n (IntKind.i64.wrap (k+1)) (c.set i.toNat (k.tmod 3==0)) (IntKind.i64.wrap (i+1))):=by kernel_rfl
theorem rfMB_2 (n:Nat) (k:Int) (c:List Bool) (i:Int):roundR 1 (liveH fMB 0) (liveB' fMB 0) (evalC tt (ctOf T77) ([]) 1 100 (bodyAt 0 (codeOf fMB)) (IfMB n k c i) [(0,false)])=
  some (.exit 0,((!decide (i<(↑n:Int)))&&true),[],XfMB k c):=by kernel_rfl
theorem xfMB_1 (a c:List Bool) (k k':Int):evalF tt (ctOf T77) ([(0,⟨liveH fMB 0,IfMB a.length k a 0,.normal,XfMB k' c⟩)]) 100 fMB [.c (.sl 0 0 a.length 1 none),.c (.int .i64 k)] [.live (.bools a)] []=
  some ⟨.c (.int .i64 k'),[.live (.bools c)],true,[IfMB a.length k a 0=IfMB a.length k a 0]⟩:=by kernel_rfl
def mkSB (k:Int) (i:Nat) (c:List Bool):List Bool:=c.set i ((k+(i:Int)).tmod 3==0)
def mkLB (k:Int) (a:List Bool):List Bool:=runN (mkSB k) a.length 0 a
theorem mkLB_spec (k:Int) (a:List Bool):(mkLB k a).length=a.length∧ ∀i,i<a.length→(mkLB k a).getD i false=((k+(i:Int)).tmod 3==0):=rn_ext rfl fun _ _=>rfl
theorem lfMB (a:List Bool) (k:Int) (hn:a.length≤274877906944) (hk:0≤k) (hk2:k≤4611686018427387904):
  Good Tryz.prog 1 (.block 0 (.loop (bodyAt 0 (codeOf fMB)))) (IfMB a.length k a 0) fun e t=>e=.normal∧t=XfMB (k+(a.length:Int)) (mkLB k a):=by
 have key:=Good.count hT t77 hmix (m:=1) (id:=0) (body:=bodyAt 0 (codeOf fMB)) (β:=List Bool) a.length (fun _ c=>c.length=a.length) (fun i c=>IfMB a.length (k+(i:Int)) c i) (fun c=>XfMB (k+(a.length:Int)) c) (mkSB k) (liveH fMB 0) (liveB' fMB 0) (fun _ _=>[]) (fun _ _ _ _=>LcOk.nil) (fun i c hi hc=>⟨by unfold mkSB;rw[List.length_set];exact hc, ?_⟩) (fun c _=>⟨_,_,⟨_,_,rfMB_2 a.length (k+(a.length:Int)) c a.length,by simp,by simp⟩⟩) a rfl
 ·unfold mkLB;simpa using key
 ·have e:=rfMB_1 a.length (k+(i:Int)) c i
  rw[wrap_small (i:=(i:Int)+1) (by omega) (by omega),wrap_small (i:=k+(i:Int)+1) (by omega) (by omega),Int.toNat_natCast,show k+(i:Int)+1=k+((i+1:Nat):Int)from by omega]at e
  refine⟨_,_,⟨_,_,e, ?_,by simp⟩⟩
  simp only[hc,bS]
  first|omega|(simp;omega)
def FFmkB:Model:=fun args h=>
 match args,h with
 |[.c (.sl 0 0 n 1 none),.c (.int .i64 k)],[.live (.bools a)]=>
  some (.c (.int .i64 (k+(a.length:Int))),[.live (.bools (mkLB k a))],[decide (a.length≤274877906944),decide (n=a.length),decide (0≤k),decide (k≤4611686018427387904)])
 |_,_=>none
theorem mfMB:ModelOk Tryz.prog 140 FFmkB:=by
 intro args h res h' o he ho
 unfold FFmkB at he
 split at he
 case h_2=>cases he
 rename_i n k a
 simp only[Option.some.injEq,Prod.mk.injEq]at he
 obtain⟨rfl,rfl,rfl⟩:=he
 simp only[List.mem_cons,List.not_mem_nil,or_false,forall_eq_or_imp,forall_eq,decide_eq_true_eq]at ho
 obtain⟨o1,o2,o3,o4⟩:=ho
 subst o2
 exact meets_of t77 (fn:=fMB) (by kernel_rfl) (by kernel_rfl) (xfMB_1 a (mkLB k a) k (k+(a.length:Int))) (by simp) (by simp) (fun cc hcc=>LcOk.cons (c:=cc) (by cases hcc;kernel_rfl) (by cases hcc;exact lfMB a k o1 o3 o4) LcOk.nil)
noncomputable abbrev fHB:=Tryz.f141
noncomputable def IfHB (a:List Bool) (k i:Int):St:=stOf fHB.ntmps [(0,.c (.view none (.bools a) a.length 1 none)),(1,.c (.int .i64 k)),(5,.c (.int .i64 i))] []
noncomputable def XfHB (k:Int):St:=stOf fHB.ntmps [(1,.c (.int .i64 k))] []
theorem rfHB_2 (a:List Bool) (k i:Int):roundR 0 (liveH fHB 0) (liveB' fHB 0) (evalC tt (ctOf T77) ([]) 0 100 (bodyAt 0 (codeOf fHB)) (IfHB a k i) [(0,true),(0,false)])=
  some (.normal,(decide (i<(↑a.length:Int))&&(decide (0≤i)&&(decide (i<(↑a.length:Int))&&(decide (i.toNat<a.length)&&((!!a.getD i.toNat false==(k.tmod 3==0))&&true))))),[],IfHB a (IntKind.i64.wrap (k+1)) (IntKind.i64.wrap (i+1))):=by kernel_rfl
theorem rfHB_3 (a:List Bool) (k i:Int):roundR 0 (liveH fHB 0) (liveB' fHB 0) (evalC tt (ctOf T77) ([]) 0 100 (bodyAt 0 (codeOf fHB)) (IfHB a k i) [(0,false)])=
  some (.exit 0,((!decide (i<(↑a.length:Int)))&&true),[],XfHB k):=by kernel_rfl
theorem xfHB_1 (a:List Bool) (k k':Int):evalF tt (ctOf T77) ([(0,⟨liveH fHB 0,IfHB a k 0,.normal,XfHB k'⟩)]) 100 fHB [.c (.view none (.bools a) a.length 1 none),.c (.int .i64 k)] [] []=
  some ⟨.c (.int .i64 k'),[],true,[IfHB a k 0=IfHB a k 0]⟩:=by kernel_rfl
def hdB (k:Int) (a:List Bool):Bool:=allR (fun i=>a.getD i false==((k+(i:Int)).tmod 3==0)) a.length 0
theorem hdB_mk (k:Int) (a:List Bool):hdB k (mkLB k a)=true:=by
 obtain⟨h1,h2⟩:=mkLB_spec k a
 unfold hdB
 rw[allR_spec]
 intro i _ hi
 rw[h2 i (by omega),beq_self_eq_true]
theorem lfHB (a:List Bool) (k:Int) (hn:a.length≤274877906944) (hk:0≤k) (hk2:k≤4611686018427387904) (hh:hdB k a=true):
  Good Tryz.prog 0 (.block 0 (.loop (bodyAt 0 (codeOf fHB)))) (IfHB a k 0) fun e t=>e=.normal∧t=XfHB (k+(a.length:Int)):=by
 have hh:=allR_spec.1 hh
 have key:=Good.count hT t77 hmix (m:=0) (id:=0) (body:=bodyAt 0 (codeOf fHB)) (β:=Unit) a.length (fun _ _=>True) (fun i _=>IfHB a (k+(i:Int)) i) (fun _=>XfHB (k+(a.length:Int))) (fun _ _=>()) (liveH fHB 0) (liveB' fHB 0) (fun _ _=>[]) (fun _ _ _ _=>LcOk.nil) (fun i _ hi _=>⟨trivial, ?_⟩) (fun _ _=>⟨_,_,⟨_,_,rfHB_3 a (k+(a.length:Int)) a.length,by simp,by simp⟩⟩) () trivial
 ·simpa using key
 ·have hv:=hh i (by omega) (by omega)
  have hv:=beq_iff_eq.1 hv
  have e:=rfHB_2 a (k+(i:Int)) i
  rw[wrap_small (i:=(i:Int)+1) (by omega) (by omega),wrap_small (i:=k+(i:Int)+1) (by omega) (by omega),Int.toNat_natCast,show k+(i:Int)+1=k+((i+1:Nat):Int)from by omega]at e
  refine⟨_,_,⟨_,_,e, ?_,by simp⟩⟩
  simp only[hv,bne_self_eq_false,beq_self_eq_true,bS]
  first|omega|(simp;omega)
def FFhdB:Model:=fun args h=>
 match args,h with
 |[.c (.view _ (.bools a) n1 1 _),.c (.int .i64 k)],[]=>
  some (.c (.int .i64 (k+(a.length:Int))),[],[decide (a.length≤274877906944),decide (0≤k),decide (k≤4611686018427387904),hdB k a])
 |_,_=>none
theorem mfHB:ModelN Tryz.prog 141 FFhdB:=by
 intro args h res h' o hnorm he ho
 unfold FFhdB at he
 split at he
 case h_2=>cases he
 rename_i nl a n1 cap k
 simp only[Option.some.injEq,Prod.mk.injEq]at he
 obtain⟨rfl,rfl,rfl⟩:=he
 simp only[List.mem_cons,List.not_mem_nil,or_false,forall_eq_or_imp,forall_eq,decide_eq_true_eq]at ho
 obtain⟨o1,o2,o3,o4⟩:=ho
 simp only[normA,AV.norm,normL,Cell.norm,Con.size,List.cons.injEq,AV.c.injEq,AV.agg.injEq,Cell.view.injEq,nlen_one,true_and,and_true]at hnorm
 obtain⟨rfl,rfl,rfl⟩:=hnorm
 exact meets_of t77 (fn:=fHB) (by kernel_rfl) (by kernel_rfl) (xfHB_1 a k (k+(a.length:Int))) (by simp) (by simp) (fun cc hcc=>LcOk.cons (c:=cc) (by cases hcc;kernel_rfl) (by cases hcc;exact lfHB a k o1 o2 o3 o4) LcOk.nil)
noncomputable abbrev fEB:=Tryz.f139
noncomputable def IfEB (a:List Bool) (i:Int):St:=stOf fEB.ntmps [(0,.c (.view none (.bools a) a.length 1 none)),(1,.c (.view none (.bools a) a.length 1 none)),(5,.c (.int .i64 i))] []
noncomputable def XfEB:St:=stOf fEB.ntmps [] []
theorem rfEB_2 (a:List Bool) (i:Int):roundR 0 (liveH fEB 0) (liveB' fEB 0) (evalC tt (ctOf T77) ([]) 0 100 (bodyAt 0 (codeOf fEB)) (IfEB a i) [(0,true),(0,false)])=
  some (.normal,(decide (i<(↑a.length:Int))&&(decide (0≤i)&&(decide (i<(↑a.length:Int))&&(decide (i.toNat<a.length)&&(decide (0≤i)&&(decide (i<(↑a.length:Int))&&(decide (i.toNat<a.length)&&((!!a.getD i.toNat false==a.getD i.toNat false)&&true)))))))),[],IfEB a (IntKind.i64.wrap (i+1))):=by kernel_rfl
theorem rfEB_3 (a:List Bool) (i:Int):roundR 0 (liveH fEB 0) (liveB' fEB 0) (evalC tt (ctOf T77) ([]) 0 100 (bodyAt 0 (codeOf fEB)) (IfEB a i) [(0,false)])=
  some (.exit 0,((!decide (i<(↑a.length:Int)))&&true),[],XfEB):=by kernel_rfl
theorem xfEB_2 (a:List Bool):evalF tt (ctOf T77) ([(0,⟨liveH fEB 0,IfEB a 0,.normal,XfEB⟩)]) 100 fEB [.c (.view none (.bools a) a.length 1 none),.c (.view none (.bools a) a.length 1 none)] [] [(0,false)]=
  some ⟨.c (.bool true),[],((!(↑a.length:Int)!=(↑a.length:Int))&&true),[IfEB a 0=IfEB a 0]⟩:=by kernel_rfl
theorem lfEB (a:List Bool) (hn:a.length≤274877906944):
  Good Tryz.prog 0 (.block 0 (.loop (bodyAt 0 (codeOf fEB)))) (IfEB a 0) fun e t=>e=.normal∧t=XfEB:=by
 refine Good.count hT t77 hmix (m:=0) (id:=0) (body:=bodyAt 0 (codeOf fEB)) (β:=Unit) a.length (fun _ _=>True) (fun i _=>IfEB a i) (fun _=>XfEB) (fun _ _=>()) (liveH fEB 0) (liveB' fEB 0) (fun _ _=>[]) (fun _ _ _ _=>LcOk.nil) (fun i _ hi _=>⟨trivial, ?_⟩) (fun _ _=>⟨_,_,⟨_,_,rfEB_3 a a.length,by simp,by simp⟩⟩) () trivial
 have e:=rfEB_2 a i
 rw[wrap_small (i:=(i:Int)+1) (by omega) (by omega),Int.toNat_natCast]at e
 refine⟨_,_,⟨_,_,e, ?_,by simp⟩⟩
 simp only[bne_self_eq_false,beq_self_eq_true,bS]
 first|omega|(simp;omega)
def FFeqB:Model:=fun args h=>
 match args,h with
 |[.c (.view _ (.bools a) n1 1 _),.c (.view _ (.bools b) n2 1 _)],[]=>
  some (.c (.bool true),[],[decide (a.length≤274877906944),decide (a=b)])
 |_,_=>none
theorem mfEB:ModelN Tryz.prog 139 FFeqB:=by
 intro args h res h' o hnorm he ho
 unfold FFeqB at he
 split at he
 case h_2=>cases he
 rename_i nl a n1 cap nl2 b n2 cap2
 simp only[Option.some.injEq,Prod.mk.injEq]at he
 obtain⟨rfl,rfl,rfl⟩:=he
 simp only[List.mem_cons,List.not_mem_nil,or_false,forall_eq_or_imp,forall_eq,decide_eq_true_eq]at ho
 obtain⟨o1,o2⟩:=ho
 simp only[normA,AV.norm,normL,Cell.norm,Con.size,List.cons.injEq,AV.c.injEq,AV.agg.injEq,Cell.view.injEq,nlen_one,true_and,and_true]at hnorm
 obtain⟨⟨rfl,rfl,rfl⟩,rfl,rfl,rfl⟩:=hnorm
 subst o2
 exact meets_of t77 (fn:=fEB) (by kernel_rfl) (by kernel_rfl) (xfEB_2 a) (by simp) (by simp) (fun cc hcc=>LcOk.cons (c:=cc) (by cases hcc;kernel_rfl) (by cases hcc;exact lfEB a o1) LcOk.nil)
theorem xfZB_1 (a:List Bool) (l:Int):evalF tt (ctOf T77) ([]) 100 Tryz.f136 [.c (.view none (.bools a) a.length 1 none),.c (.int .i64 l)] [] [(0,true)]=
  some ⟨.c (.int .i64 (-1)),[],((decide (IntKind.i64.wrap (l-(↑a.length:Int))<0))&&true),[]⟩:=by kernel_rfl
theorem xfZB_2 (a:List Bool) (l:Int):evalF tt (ctOf T77) ([]) 100 Tryz.f136 [.c (.view none (.bools a) a.length 1 none),.c (.int .i64 l)] [] [(0,false)]=
  some ⟨.c (.int .i64 (IntKind.i64.wrap (l-(↑a.length:Int)))),[],((!decide (IntKind.i64.wrap (l-(↑a.length:Int))<0))&&true),[]⟩:=by kernel_rfl
def FFszB:Model:=fun args h=>
 match args,h with
 |[.c (.view _ (.bools a) n1 1 _),.c (.int .i64 l)],[]=>
  some (.c (.int .i64 (szF l a.length)),[],[decide (a.length≤9223372036854775807),decide (0≤l),decide (l≤1048576)])
 |_,_=>none
theorem mfZB:ModelN Tryz.prog 136 FFszB:=by
 intro args h res h' o hnorm he ho
 unfold FFszB at he
 split at he
 case h_2=>cases he
 rename_i nl a n1 cap l
 simp only[Option.some.injEq,Prod.mk.injEq]at he
 obtain⟨rfl,rfl,rfl⟩:=he
 simp only[List.mem_cons,List.not_mem_nil,or_false,forall_eq_or_imp,forall_eq,decide_eq_true_eq]at ho
 obtain⟨o1,o2,o3⟩:=ho
 simp only[normA,AV.norm,normL,Cell.norm,Con.size,List.cons.injEq,AV.c.injEq,AV.agg.injEq,Cell.view.injEq,nlen_one,true_and,and_true]at hnorm
 obtain⟨rfl,rfl,rfl⟩:=hnorm
 unfold szF
 have w:IntKind.i64.wrap (l-(a.length:Int))=l-(a.length:Int):=by
  simp only[IntKind.wrap,IntKind.bits,IntKind.signed];simp;omega
 cases c:decide (l-(a.length:Int)<0)with
 |true=>exact meets_of t77 (by kernel_rfl) (by kernel_rfl) (xfZB_1 a l) (by rw[w,c];rfl) (by simp) (fun cc _=>LcOk.nil)
 |false=>
  have e:=xfZB_2 a l
  rw[w]at e
  exact meets_of t77 (by kernel_rfl) (by kernel_rfl) e (by rw[c];rfl) (by simp) (fun cc _=>LcOk.nil)
end Go.Proofs.YthapjdpkelihiaaGreat.Am
end
section
namespace Go.Proofs.YthapjdpkelihiaaGreat.Am
noncomputable def T80:List Entry:=[⟨88,[],nm FFtoI⟩,⟨138,[],nm FFtoB⟩,⟨93,[0],FFmkI⟩,⟨140,[0],FFmkB⟩,⟨95,[],nm FFhdI⟩,⟨141,[],nm FFhdB⟩,⟨91,[],nm FFeqI⟩,⟨139,[],nm FFeqB⟩,⟨85,[],nm FFszI⟩,⟨136,[],nm FFszB⟩,⟨64,[],nm FFredoS⟩]++T77
theorem e80:EntriesOk Tryz.prog T80:=by
 refine EntriesOk.append ?_ e77
 intro e he
 simp only[List.mem_cons,List.not_mem_nil,or_false]at he
 rcases he with rfl|rfl|rfl|rfl|rfl|rfl|rfl|rfl|rfl|rfl|rfl
 ·exact mfTI.ok
 ·exact mfTB.ok
 ·exact mfMI
 ·exact mfMB
 ·exact mfHI.ok
 ·exact mfHB.ok
 ·exact mfEI.ok
 ·exact mfEB.ok
 ·exact mfZI.ok
 ·exact mfZB.ok
 ·exact m18.ok
theorem t80:CtOk Tryz.prog (ctOf T80):=ctOf_ok e80
theorem szF_neg {l:Int} {n:Nat} (h:l-(n:Int)<0):szF l n= -1:=by unfold szF;rw[decide_eq_true h];rfl
theorem szF_pos {l:Int} {n:Nat} (h: ¬(l-(n:Int)<0)):szF l n=l-n:=by unfold szF;rw[decide_eq_false h];rfl
theorem szF_room {n:Nat} (h: ¬(szF 1048576 n<0)):n≤1048576:=by
 by_cases c:(1048576:Int)-(n:Int)<0
 ·rw[szF_neg c]at h;omega
 ·omega
theorem mkI_len (k:Int) (a:List Int):(mkLI k a).length=a.length:=(mkLI_spec k a).1
theorem mkB_len (k:Int) (a:List Bool):(mkLB k a).length=a.length:=(mkLB_spec k a).1
theorem xZS_1 (k l:Int) (a b:List Int) (c:List Bool):evalF tt (ctOf T80) ([]) 100 Tryz.f84 [.agg [.int .i64 k,.view none (.ints .i64 a) a.length 1 none,.view none (.ints .i64 b) b.length 1 none,.view none (.bools c) c.length 1 none],.c (.int .i64 l)] [] [(0,true)]=
  some ⟨.c (.int .i64 (-1)),[],(decide (a.length≤9223372036854775807)&&(decide (0≤l)&&(decide (l≤1048576)&&((decide (szF l a.length<0))&&true)))),[]⟩:=by kernel_rfl
theorem xZS_2 (k l:Int) (a b:List Int) (c:List Bool):evalF tt (ctOf T80) ([]) 100 Tryz.f84 [.agg [.int .i64 k,.view none (.ints .i64 a) a.length 1 none,.view none (.ints .i64 b) b.length 1 none,.view none (.bools c) c.length 1 none],.c (.int .i64 l)] [] [(0,false),(0,true)]=
  some ⟨.c (.int .i64 (-1)),[],(decide (a.length≤9223372036854775807)&&(decide (0≤l)&&(decide (l≤1048576)&&(!decide (szF l a.length<0)&&(decide (b.length≤9223372036854775807)&&(decide (0≤szF l a.length)&&(decide (szF l a.length≤1048576)&&((decide (szF (szF l a.length) b.length<0))&&true)))))))),[]⟩:=by kernel_rfl
theorem xZS_3 (k l:Int) (a b:List Int) (c:List Bool):evalF tt (ctOf T80) ([]) 100 Tryz.f84 [.agg [.int .i64 k,.view none (.ints .i64 a) a.length 1 none,.view none (.ints .i64 b) b.length 1 none,.view none (.bools c) c.length 1 none],.c (.int .i64 l)] [] [(0,false),(0,false),(0,true)]=
  some ⟨.c (.int .i64 (-1)),[],(decide (a.length≤9223372036854775807)&&(decide (0≤l)&&(decide (l≤1048576)&&(!decide (szF l a.length<0)&&(decide (b.length≤9223372036854775807)&&(decide (0≤szF l a.length)&&(decide (szF l a.length≤1048576)&&(!decide (szF (szF l a.length) b.length<0)&&(decide (c.length≤9223372036854775807)&&(decide (0≤szF (szF l a.length) b.length)&&(decide (szF (szF l a.length) b.length≤1048576)&&((decide (szF (szF (szF l a.length) b.length) c.length<0))&&true)))))))))))),[]⟩:=by kernel_rfl
theorem xZS_4 (k l:Int) (a b:List Int) (c:List Bool):evalF tt (ctOf T80) ([]) 100 Tryz.f84 [.agg [.int .i64 k,.view none (.ints .i64 a) a.length 1 none,.view none (.ints .i64 b) b.length 1 none,.view none (.bools c) c.length 1 none],.c (.int .i64 l)] [] [(0,false),(0,false),(0,false)]=
  some ⟨.c (.int .i64 (szF (szF (szF l a.length) b.length) c.length)),[],(decide (a.length≤9223372036854775807)&&(decide (0≤l)&&(decide (l≤1048576)&&(!decide (szF l a.length<0)&&(decide (b.length≤9223372036854775807)&&(decide (0≤szF l a.length)&&(decide (szF l a.length≤1048576)&&(!decide (szF (szF l a.length) b.length<0)&&(decide (c.length≤9223372036854775807)&&(decide (0≤szF (szF l a.length) b.length)&&(decide (szF (szF l a.length) b.length≤1048576)&&((!decide (szF (szF (szF l a.length) b.length) c.length<0))&&true)))))))))))),[]⟩:=by kernel_rfl
def FFszS:Model:=fun args h=>
 match args,h with
 |[.agg [.int .i64 k,.view _ (.ints .i64 a) n1 1 _,.view _ (.ints .i64 b) n2 1 _,.view _ (.bools c) n3 1 _],.c (.int .i64 l)],[]=>
  some (.c (.int .i64 (szF l (a.length+b.length+c.length))),[],[decide (a.length≤9223372036854775807),decide (b.length≤9223372036854775807),decide (c.length≤9223372036854775807),decide (0≤l),decide (l≤1048576)])
 |_,_=>none
theorem mZS:ModelN Tryz.prog 84 FFszS:=by
 intro args h res h' o hnorm he ho
 unfold FFszS at he
 split at he
 case h_2=>cases he
 rename_i k nl1 a n1 cap1 nl2 b n2 cap2 nl3 c n3 cap3 l
 simp only[Option.some.injEq,Prod.mk.injEq]at he
 obtain⟨rfl,rfl,rfl⟩:=he
 simp only[List.mem_cons,List.not_mem_nil,or_false,forall_eq_or_imp,forall_eq,decide_eq_true_eq]at ho
 obtain⟨o1,o2,o3,o4,o5⟩:=ho
 simp only[normA,AV.norm,normL,Cell.norm,Con.size,List.cons.injEq,AV.c.injEq,AV.agg.injEq,Cell.view.injEq,nlen_one,true_and,and_true]at hnorm
 obtain⟨⟨rfl,rfl,rfl⟩,⟨rfl,rfl,rfl⟩,rfl,rfl,rfl⟩:=hnorm
 by_cases h1:l-(a.length:Int)<0
 ·rw[szF_neg (n:=a.length+b.length+c.length) (by omega)]
  exact meets_of t80 (by kernel_rfl) (by kernel_rfl) (xZS_1 k l a b c) (by simp[szF_neg h1,o1,o4,o5]) (by simp) (fun cc _=>LcOk.nil)
 ·by_cases h2:l-(a.length:Int)-(b.length:Int)<0
  ·rw[szF_neg (n:=a.length+b.length+c.length) (by omega)]
   exact meets_of t80 (by kernel_rfl) (by kernel_rfl) (xZS_2 k l a b c) (by simp[szF_pos h1,szF_neg h2,o1,o2,o4,o5];omega) (by simp) (fun cc _=>LcOk.nil)
  ·by_cases h3:l-(a.length:Int)-(b.length:Int)-(c.length:Int)<0
   ·rw[szF_neg (n:=a.length+b.length+c.length) (by omega)]
    exact meets_of t80 (by kernel_rfl) (by kernel_rfl) (xZS_3 k l a b c) (by simp[szF_pos h1,szF_pos h2,szF_neg h3,o1,o2,o3,o4,o5];omega) (by simp) (fun cc _=>LcOk.nil)
   ·have e:=xZS_4 k l a b c
    rw[szF_pos h1,szF_pos h2,szF_pos h3]at e
    rw[szF_pos (n:=a.length+b.length+c.length) (by omega),show l-((a.length+b.length+c.length:Nat):Int)=l-(a.length:Int)-(b.length:Int)-(c.length:Int)from by omega]
    exact meets_of t80 (by kernel_rfl) (by kernel_rfl) e (by simp[o1,o2,o3,o4,o5];omega) (by simp) (fun cc _=>LcOk.nil)
theorem eqSM:ModelOk Tryz.prog 90 (inlM tt (ctOf T80) Tryz.f90 [(0,false)]):=inlM_ok hT t80 hmix _ (by kernel_rfl) (by kernel_rfl)
theorem hdSM:ModelOk Tryz.prog 94 (inlM tt (ctOf T80) Tryz.f94 [(0,false),(0,false),(0,false)]):=inlM_ok hT t80 hmix _ (by kernel_rfl) (by kernel_rfl)
theorem mkSM:ModelOk Tryz.prog 92 (inlM tt (ctOf T80) Tryz.f92 []):=inlM_ok hT t80 hmix _ (by kernel_rfl) (by kernel_rfl)
theorem toSM:ModelOk Tryz.prog 87 (inlM tt (ctOf T80) Tryz.f87 []):=inlM_ok hT t80 hmix _ (by kernel_rfl) (by kernel_rfl)
noncomputable def T81:List Entry:=[⟨84,[],nm FFszS⟩,⟨90,[],inlM tt (ctOf T80) Tryz.f90 [(0,false)]⟩,⟨94,[],inlM tt (ctOf T80) Tryz.f94 [(0,false),(0,false),(0,false)]⟩,⟨92,[0],inlM tt (ctOf T80) Tryz.f92 []⟩,⟨87,[],inlM tt (ctOf T80) Tryz.f87 []⟩]++T80
theorem e81:EntriesOk Tryz.prog T81:=by
 refine EntriesOk.append ?_ e80
 intro e he
 simp only[List.mem_cons,List.not_mem_nil,or_false]at he
 rcases he with rfl|rfl|rfl|rfl|rfl
 ·exact mZS.ok
 ·exact eqSM
 ·exact hdSM
 ·exact mkSM
 ·exact toSM
theorem t81:CtOk Tryz.prog (ctOf T81):=ctOf_ok e81
theorem xZK_1 (x:PK) (l:Int):evalF tt (ctOf T81) ([]) 100 Tryz.f26 [.agg x.vcells,.c (.int .i64 l)] [] [(0,true)]=
  some ⟨.c (.int .i64 (-1)),[],(decide (x.2.length≤9223372036854775807)&&(decide (x.3.length≤9223372036854775807)&&(decide (x.4.length≤9223372036854775807)&&(decide (0≤l)&&(decide (l≤1048576)&&((decide (szF l (x.2.length+x.3.length+x.4.length)<0))&&true)))))),[]⟩:=by kernel_rfl
theorem xZK_2 (x:PK) (l:Int):evalF tt (ctOf T81) ([]) 100 Tryz.f26 [.agg x.vcells,.c (.int .i64 l)] [] [(0,false),(0,true)]=
  some ⟨.c (.int .i64 (-1)),[],(decide (x.2.length≤9223372036854775807)&&(decide (x.3.length≤9223372036854775807)&&(decide (x.4.length≤9223372036854775807)&&(decide (0≤l)&&(decide (l≤1048576)&&(!decide (szF l (x.2.length+x.3.length+x.4.length)<0)&&(decide (x.7.length≤9223372036854775807)&&(decide (0≤szF l (x.2.length+x.3.length+x.4.length))&&(decide (szF l (x.2.length+x.3.length+x.4.length)≤1048576)&&((decide (szF (szF l (x.2.length+x.3.length+x.4.length)) x.7.length<0))&&true)))))))))),[]⟩:=by kernel_rfl
theorem xZK_3 (x:PK) (l:Int):evalF tt (ctOf T81) ([]) 100 Tryz.f26 [.agg x.vcells,.c (.int .i64 l)] [] [(0,false),(0,false)]=
  some ⟨.c (.int .i64 (szF (szF l (x.2.length+x.3.length+x.4.length)) x.7.length)),[],(decide (x.2.length≤9223372036854775807)&&(decide (x.3.length≤9223372036854775807)&&(decide (x.4.length≤9223372036854775807)&&(decide (0≤l)&&(decide (l≤1048576)&&(!decide (szF l (x.2.length+x.3.length+x.4.length)<0)&&(decide (x.7.length≤9223372036854775807)&&(decide (0≤szF l (x.2.length+x.3.length+x.4.length))&&(decide (szF l (x.2.length+x.3.length+x.4.length)≤1048576)&&((!decide (szF (szF l (x.2.length+x.3.length+x.4.length)) x.7.length<0))&&true)))))))))),[]⟩:=by kernel_rfl
def FFszK:Model:=fun args h=>
 match args,h with
 |[.agg [.int .i64 k,.view _ (.ints .i64 a) n1 1 _,.view _ (.ints .i64 b) n2 1 _,.view _ (.bools c) n3 1 _,.bool on,.int .i64 kd,.view _ (.ints .i64 d) n4 1 _,.int .i64 vs],.c (.int .i64 l)],[]=>
  some (.c (.int .i64 (szF l (a.length+b.length+c.length+d.length))),[],[decide (a.length≤9223372036854775807),decide (b.length≤9223372036854775807),decide (c.length≤9223372036854775807),decide (d.length≤9223372036854775807),decide (0≤l),decide (l≤1048576)])
 |_,_=>none
theorem mZK:ModelN Tryz.prog 26 FFszK:=by
 intro args h res h' o hnorm he ho
 unfold FFszK at he
 split at he
 case h_2=>cases he
 rename_i k nl1 a n1 cap1 nl2 b n2 cap2 nl3 c n3 cap3 on kd nl4 d n4 cap4 vs l
 simp only[Option.some.injEq,Prod.mk.injEq]at he
 obtain⟨rfl,rfl,rfl⟩:=he
 simp only[List.mem_cons,List.not_mem_nil,or_false,forall_eq_or_imp,forall_eq,decide_eq_true_eq]at ho
 obtain⟨o1,o2,o3,o4,o5,o6⟩:=ho
 simp only[normA,AV.norm,normL,Cell.norm,Con.size,List.cons.injEq,AV.c.injEq,AV.agg.injEq,Cell.view.injEq,nlen_one,true_and,and_true]at hnorm
 obtain⟨⟨rfl,rfl,rfl⟩,⟨rfl,rfl,rfl⟩,⟨rfl,rfl,rfl⟩,rfl,rfl,rfl⟩:=hnorm
 by_cases h1:l-((a.length+b.length+c.length:Nat):Int)<0
 ·rw[szF_neg (n:=a.length+b.length+c.length+d.length) (by omega)]
  exact meets_of t81 (by kernel_rfl) (by kernel_rfl) (xZK_1 ⟨k,a,b,c,on,kd,d,vs⟩ l) (by simp[szF_neg h1,o1,o2,o3,o5,o6]) (by simp) (fun cc _=>LcOk.nil)
 ·by_cases h2:l-((a.length+b.length+c.length:Nat):Int)-(d.length:Int)<0
  ·rw[szF_neg (n:=a.length+b.length+c.length+d.length) (by omega)]
   exact meets_of t81 (by kernel_rfl) (by kernel_rfl) (xZK_2 ⟨k,a,b,c,on,kd,d,vs⟩ l) (by simp only[szF_pos h1,szF_neg h2,o1,o2,o3,o4,o5,o6,decide_true];simp;omega) (by simp) (fun cc _=>LcOk.nil)
  ·have e:=xZK_3 ⟨k,a,b,c,on,kd,d,vs⟩ l
   simp only[szF_pos h1,szF_pos h2]at e
   rw[szF_pos (n:=a.length+b.length+c.length+d.length) (by omega),show l-((a.length+b.length+c.length+d.length:Nat):Int)=l-((a.length+b.length+c.length:Nat):Int)-(d.length:Int)from by omega]
   exact meets_of t81 (by kernel_rfl) (by kernel_rfl) e (by simp only[o1,o2,o3,o4,o5,o6,decide_true];simp;omega) (by simp) (fun cc _=>LcOk.nil)
theorem eqKM:ModelOk Tryz.prog 30 (inlM tt (ctOf T81) Tryz.f30 [(1,false),(0,false),(1,false)]):=inlM_ok hT t81 hmix _ (by kernel_rfl) (by kernel_rfl)
theorem hdKM:ModelOk Tryz.prog 32 (inlM tt (ctOf T81) Tryz.f32 [(0,false),(0,false)]):=inlM_ok hT t81 hmix _ (by kernel_rfl) (by kernel_rfl)
theorem mkKM:ModelOk Tryz.prog 31 (inlM tt (ctOf T81) Tryz.f31 []):=inlM_ok hT t81 hmix _ (by kernel_rfl) (by kernel_rfl)
theorem toKM:ModelOk Tryz.prog 28 (inlM tt (ctOf T81) Tryz.f28 []):=inlM_ok hT t81 hmix _ (by kernel_rfl) (by kernel_rfl)
noncomputable def T82:List Entry:=[⟨26,[],nm FFszK⟩,⟨30,[],inlM tt (ctOf T81) Tryz.f30 [(1,false),(0,false),(1,false)]⟩,⟨32,[],inlM tt (ctOf T81) Tryz.f32 [(0,false),(0,false)]⟩,⟨31,[0],inlM tt (ctOf T81) Tryz.f31 []⟩,⟨28,[],inlM tt (ctOf T81) Tryz.f28 []⟩]++T81
theorem e82:EntriesOk Tryz.prog T82:=by
 refine EntriesOk.append ?_ e81
 intro e he
 simp only[List.mem_cons,List.not_mem_nil,or_false]at he
 rcases he with rfl|rfl|rfl|rfl|rfl
 ·exact mZK.ok
 ·exact eqKM
 ·exact hdKM
 ·exact mkKM
 ·exact toKM
end Go.Proofs.YthapjdpkelihiaaGreat.Am
end
section
namespace Go.Proofs.YthapjdpkelihiaaGreat.Am
noncomputable def T88:List Entry:=[⟨29,[],nm FFTA⟩,⟨27,[],nm FFTS⟩]++T82
theorem e88:EntriesOk Tryz.prog T88:=by
 refine EntriesOk.append ?_ e82
 intro e he
 simp only[List.mem_cons,List.not_mem_nil,or_false]at he
 rcases he with rfl|rfl
 ·exact mTA.ok
 ·exact mTS.ok
theorem t88:CtOk Tryz.prog (ctOf T88):=ctOf_ok e88
def yTX_p1 (x:PK) (i:Int) (qz:Bool):Bool:=((decide (x.2.length≤9223372036854775807))&&((decide (x.3.length≤9223372036854775807))&&((decide (x.4.length≤9223372036854775807))&&((decide (x.7.length≤9223372036854775807))&&qz))))
def yTX_p2 (x:PK) (i:Int) (qz:Bool):Bool:=((!decide (szF 1048576 (x.2.length+x.3.length+x.4.length+x.7.length)<0))&&((decide (x.2.length≤274877906944)&&(decide (x.3.length≤274877906944)&&(decide (x.4.length≤274877906944)&&true))&&(decide (x.7.length≤274877906944)&&true))&&((decide (x.2.length=x.2.length))&&((decide (x.3.length=x.3.length))&&((decide (x.4.length=x.4.length))&&((decide (x.7.length=x.7.length))&&((decide (x.2.length≤274877906944))&&((decide (x.7.length≤274877906944))&&((decide (x.2.length≤274877906944)&&(decide (x.3.length≤274877906944)&&(decide (x.4.length≤274877906944)&&true))&&(decide (x.7.length≤274877906944)&&true))&&((decide (x.2.length=x.2.length))&&((decide (x.3.length=x.3.length))&&((decide (x.4.length=x.4.length))&&((decide (x.7.length=x.7.length))&&((decide (x.7.length≤274877906944))&&((decide ((taK x i).a.length=(taK x i).a.length))&&((decide ((taK x i).b.length=(taK x i).b.length))&&((decide ((taK x i).c.length=(taK x i).c.length))&&((decide ((taK x i).d.length=(taK x i).d.length))&&((decide ((taK x i).a.length=(taK x i).a.length))&&((decide ((taK x i).b.length=(taK x i).b.length))&&((decide ((taK x i).c.length=(taK x i).c.length))&&((decide ((taK x i).d.length=(taK x i).d.length))&&((!(taK x i).k !=(taK x i).k&&(decide ((taK x i).a.length≤274877906944)&&(decide ((taK x i).a=(taK x i).a)&&(decide ((taK x i).b.length≤274877906944)&&(decide ((taK x i).b=(taK x i).b)&&(decide ((taK x i).c.length≤274877906944)&&(decide ((taK x i).c=(taK x i).c)&&true))))))&&(!!(taK x i).on==(taK x i).on&&(!(taK x i).kd !=(taK x i).kd&&(decide ((taK x i).d.length≤274877906944)&&(decide ((taK x i).d=(taK x i).d)&&(!(taK x i).vs !=(taK x i).vs&&true))))))&&qz)))))))))))))))))))))))
def yTX_p3 (x:PK) (i:Int) (qz:Bool):Bool:=((!!tbB x i==tbB x i)&&((decide (x.2.length≤274877906944)&&(decide (x.3.length≤274877906944)&&(decide (x.4.length≤274877906944)&&true))&&(decide (x.7.length≤274877906944)&&true))&&((decide (x.2.length=x.2.length))&&((decide (x.3.length=x.3.length))&&((decide (x.4.length=x.4.length))&&((decide (x.7.length=x.7.length))&&((decide (x.2.length=x.2.length))&&((decide (x.3.length=x.3.length))&&((decide (x.4.length=x.4.length))&&((decide (x.7.length=x.7.length))&&((!x.1 !=x.1&&(decide (x.2.length≤274877906944)&&(decide (x.2=x.2)&&(decide (x.3.length≤274877906944)&&(decide (x.3=x.3)&&(decide (x.4.length≤274877906944)&&(decide (x.4=x.4)&&true))))))&&(!!x.5==x.5&&(!x.6 !=x.6&&(decide (x.7.length≤274877906944)&&(decide (x.7=x.7)&&(!x.8 !=x.8&&true))))))&&((decide (x.2.length≤274877906944)&&(decide (x.2.length=x.2.length)&&(decide (x.3.length≤274877906944)&&(decide (x.3.length=x.3.length)&&(decide (1+(↑x.2.length:Int)≤4611686018427387904)&&(decide (x.4.length≤274877906944)&&(decide (x.4.length=x.4.length)&&(decide (1+(↑x.2.length:Int)+(↑x.3.length:Int)≤4611686018427387904)&&true)))))))&&(decide (x.7.length≤274877906944)&&(decide (x.7.length=x.7.length)&&(decide (1+(↑x.2.length:Int)+(↑x.3.length:Int)+(↑x.4.length:Int)≤4611686018427387904)&&true))))&&((decide ((taK x i).a.length=(taK x i).a.length))&&((decide ((taK x i).b.length=(taK x i).b.length))&&((decide ((taK x i).c.length=(taK x i).c.length))&&((decide ((taK x i).d.length=(taK x i).d.length))&&((decide ((taK x i).a.length=(taK x i).a.length))&&((decide ((taK x i).b.length=(taK x i).b.length))&&((decide ((taK x i).c.length=(taK x i).c.length))&&((decide ((taK x i).d.length=(taK x i).d.length))&&((!(taK x i).k !=(taK x i).k&&(decide ((taK x i).a.length≤274877906944)&&(decide ((taK x i).a=(taK x i).a)&&(decide ((taK x i).b.length≤274877906944)&&(decide ((taK x i).b=(taK x i).b)&&(decide ((taK x i).c.length≤274877906944)&&(decide ((taK x i).c=(taK x i).c)&&true))))))&&(!!(taK x i).on==(taK x i).on&&(!(taK x i).kd !=(taK x i).kd&&(decide ((taK x i).d.length≤274877906944)&&(decide ((taK x i).d=(taK x i).d)&&(!(taK x i).vs !=(taK x i).vs&&true))))))&&((!!tbB x i==tbB x i)&&((decide ((taK x i).a.length≤274877906944)&&(decide ((taK x i).a.length=(taK x i).a.length)&&(decide ((taK x i).b.length≤274877906944)&&(decide ((taK x i).b.length=(taK x i).b.length)&&(decide (1+(↑(taK x i).a.length:Int)≤4611686018427387904)&&(decide ((taK x i).c.length≤274877906944)&&(decide ((taK x i).c.length=(taK x i).c.length)&&(decide (1+(↑(taK x i).a.length:Int)+(↑(taK x i).b.length:Int)≤4611686018427387904)&&true)))))))&&(decide ((taK x i).d.length≤274877906944)&&(decide ((taK x i).d.length=(taK x i).d.length)&&(decide (1+(↑(taK x i).a.length:Int)+(↑(taK x i).b.length:Int)+(↑(taK x i).c.length:Int)≤4611686018427387904)&&true))))&&((decide ((taK x i).a.length=(mkLI 1 (taK x i).a).length))&&((decide ((taK x i).b.length=(mkLI (1+(↑(taK x i).a.length:Int)) (taK x i).b).length))&&((decide ((taK x i).c.length=(mkLB (1+(↑(taK x i).a.length:Int)+(↑(taK x i).b.length:Int)) (taK x i).c).length))&&((decide ((taK x i).d.length=(mkLI (1+(↑(taK x i).a.length:Int)+(↑(taK x i).b.length:Int)+(↑(taK x i).c.length:Int)) (taK x i).d).length))&&((decide ((mkLI 1 (taK x i).a).length≤274877906944)&&(hdI 1 (mkLI 1 (taK x i).a)&&(decide ((mkLI (1+(↑(taK x i).a.length:Int)) (taK x i).b).length≤274877906944)&&(decide (1+(↑(mkLI 1 (taK x i).a).length:Int)≤4611686018427387904)&&(hdI (1+(↑(mkLI 1 (taK x i).a).length:Int)) (mkLI (1+(↑(taK x i).a.length:Int)) (taK x i).b)&&(decide ((mkLB (1+(↑(taK x i).a.length:Int)+(↑(taK x i).b.length:Int)) (taK x i).c).length≤274877906944)&&(decide (1+(↑(mkLI 1 (taK x i).a).length:Int)+(↑(mkLI (1+(↑(taK x i).a.length:Int)) (taK x i).b).length:Int)≤4611686018427387904)&&(hdB (1+(↑(mkLI 1 (taK x i).a).length:Int)+(↑(mkLI (1+(↑(taK x i).a.length:Int)) (taK x i).b).length:Int)) (mkLB (1+(↑(taK x i).a.length:Int)+(↑(taK x i).b.length:Int)) (taK x i).c)&&true)))))))&&(decide ((mkLI (1+(↑(taK x i).a.length:Int)+(↑(taK x i).b.length:Int)+(↑(taK x i).c.length:Int)) (taK x i).d).length≤274877906944)&&(decide (1+(↑(mkLI 1 (taK x i).a).length:Int)+(↑(mkLI (1+(↑(taK x i).a.length:Int)) (taK x i).b).length:Int)+(↑(mkLB (1+(↑(taK x i).a.length:Int)+(↑(taK x i).b.length:Int)) (taK x i).c).length:Int)≤4611686018427387904)&&(hdI (1+(↑(mkLI 1 (taK x i).a).length:Int)+(↑(mkLI (1+(↑(taK x i).a.length:Int)) (taK x i).b).length:Int)+(↑(mkLB (1+(↑(taK x i).a.length:Int)+(↑(taK x i).b.length:Int)) (taK x i).c).length:Int)) (mkLI (1+(↑(taK x i).a.length:Int)+(↑(taK x i).b.length:Int)+(↑(taK x i).c.length:Int)) (taK x i).d)&&true))))&&qz))))))))))))))))))))))))))))
noncomputable abbrev yTXE (x:PK) (i:Int) (p:Path):Option FOut:=evalF tt (ctOf T88) ([]) 100 Tryz.f5 [.agg x.vcells,.c (.int .i64 i)] [] p
theorem yTX_1 (x:PK) (i:Int):yTXE x i [(0,true)]=
  some ⟨.c (.bool true),[],(yTX_p1 x i ((decide (szF 1048576 (x.2.length+x.3.length+x.4.length+x.7.length)<0))&&true)),[]⟩:=by kernel_rfl
theorem yTX_4 (x:PK) (i:Int):yTXE x i [(0,false),(1,false),(3,false),(1,false),(1,false),(1,false)]=
  some ⟨.c (.bool true),[],(yTX_p1 x i (yTX_p2 x i (yTX_p3 x i ((!1+(↑(mkLI 1 (taK x i).a).length:Int)+(↑(mkLI (1+(↑(taK x i).a.length:Int)) (taK x i).b).length:Int)+(↑(mkLB (1+(↑(taK x i).a.length:Int)+(↑(taK x i).b.length:Int)) (taK x i).c).length:Int)+(↑(mkLI (1+(↑(taK x i).a.length:Int)+(↑(taK x i).b.length:Int)+(↑(taK x i).c.length:Int)) (taK x i).d).length:Int)!=1+(↑(taK x i).a.length:Int)+(↑(taK x i).b.length:Int)+(↑(taK x i).c.length:Int)+(↑(taK x i).d.length:Int))&&((decide (x.2.length≤274877906944)&&(decide (x.3.length≤274877906944)&&(decide (x.4.length≤274877906944)&&true))&&(decide (x.7.length≤274877906944)&&true))&&(decide (x.2.length=x.2.length)&&(decide (x.3.length=x.3.length)&&(decide (x.4.length=x.4.length)&&(decide (x.7.length=x.7.length)&&(decide (x.7.length≤274877906944)&&(decide ((taK x i).a.length=(taK x i).a.length)&&(decide ((taK x i).b.length=(taK x i).b.length)&&(decide ((taK x i).c.length=(taK x i).c.length)&&(decide ((taK x i).d.length=(taK x i).d.length)&&(decide ((taK x i).a.length=(taK x i).a.length)&&(decide ((taK x i).b.length=(taK x i).b.length)&&(decide ((taK x i).c.length=(taK x i).c.length)&&(decide ((taK x i).d.length=(taK x i).d.length)&&((!(taK x i).k !=(taK x i).k&&(decide ((taK x i).a.length≤274877906944)&&(decide ((taK x i).a=(taK x i).a)&&(decide ((taK x i).b.length≤274877906944)&&(decide ((taK x i).b=(taK x i).b)&&(decide ((taK x i).c.length≤274877906944)&&(decide ((taK x i).c=(taK x i).c)&&true))))))&&(!!(taK x i).on==(taK x i).on&&(!(taK x i).kd !=(taK x i).kd&&(decide ((taK x i).d.length≤274877906944)&&(decide ((taK x i).d=(taK x i).d)&&(!(taK x i).vs !=(taK x i).vs&&true))))))&&((!!tbB x i==tbB x i)&&(decide ((taK x i).a.length=(mkLI 1 (taK x i).a).length)&&(decide ((taK x i).b.length=(mkLI (1+(↑(taK x i).a.length:Int)) (taK x i).b).length)&&(decide ((taK x i).c.length=(mkLB (1+(↑(taK x i).a.length:Int)+(↑(taK x i).b.length:Int)) (taK x i).c).length)&&(decide ((taK x i).d.length=(mkLI (1+(↑(taK x i).a.length:Int)+(↑(taK x i).b.length:Int)+(↑(taK x i).c.length:Int)) (taK x i).d).length)&&((decide ((mkLI 1 (taK x i).a).length≤274877906944)&&(hdI 1 (mkLI 1 (taK x i).a)&&(decide ((mkLI (1+(↑(taK x i).a.length:Int)) (taK x i).b).length≤274877906944)&&(decide (1+(↑(mkLI 1 (taK x i).a).length:Int)≤4611686018427387904)&&(hdI (1+(↑(mkLI 1 (taK x i).a).length:Int)) (mkLI (1+(↑(taK x i).a.length:Int)) (taK x i).b)&&(decide ((mkLB (1+(↑(taK x i).a.length:Int)+(↑(taK x i).b.length:Int)) (taK x i).c).length≤274877906944)&&(decide (1+(↑(mkLI 1 (taK x i).a).length:Int)+(↑(mkLI (1+(↑(taK x i).a.length:Int)) (taK x i).b).length:Int)≤4611686018427387904)&&(hdB (1+(↑(mkLI 1 (taK x i).a).length:Int)+(↑(mkLI (1+(↑(taK x i).a.length:Int)) (taK x i).b).length:Int)) (mkLB (1+(↑(taK x i).a.length:Int)+(↑(taK x i).b.length:Int)) (taK x i).c)&&true)))))))&&(decide ((mkLI (1+(↑(taK x i).a.length:Int)+(↑(taK x i).b.length:Int)+(↑(taK x i).c.length:Int)) (taK x i).d).length≤274877906944)&&(decide (1+(↑(mkLI 1 (taK x i).a).length:Int)+(↑(mkLI (1+(↑(taK x i).a.length:Int)) (taK x i).b).length:Int)+(↑(mkLB (1+(↑(taK x i).a.length:Int)+(↑(taK x i).b.length:Int)) (taK x i).c).length:Int)≤4611686018427387904)&&(hdI (1+(↑(mkLI 1 (taK x i).a).length:Int)+(↑(mkLI (1+(↑(taK x i).a.length:Int)) (taK x i).b).length:Int)+(↑(mkLB (1+(↑(taK x i).a.length:Int)+(↑(taK x i).b.length:Int)) (taK x i).c).length:Int)) (mkLI (1+(↑(taK x i).a.length:Int)+(↑(taK x i).b.length:Int)+(↑(taK x i).c.length:Int)) (taK x i).d)&&true))))&&((!1+(↑(mkLI 1 (taK x i).a).length:Int)+(↑(mkLI (1+(↑(taK x i).a.length:Int)) (taK x i).b).length:Int)+(↑(mkLB (1+(↑(taK x i).a.length:Int)+(↑(taK x i).b.length:Int)) (taK x i).c).length:Int)+(↑(mkLI (1+(↑(taK x i).a.length:Int)+(↑(taK x i).b.length:Int)+(↑(taK x i).c.length:Int)) (taK x i).d).length:Int)!=1+(↑(taK x i).a.length:Int)+(↑(taK x i).b.length:Int)+(↑(taK x i).c.length:Int)+(↑(taK x i).d.length:Int))&&true)))))))))))))))))))))))))),[]⟩:=by kernel_rfl
theorem lawTX (x:PK) (i:Int) (o1:x.a.length≤9223372036854775807) (o2:x.b.length≤9223372036854775807) (o3:x.c.length≤9223372036854775807) (o4:x.d.length≤9223372036854775807):Meets Tryz.prog 5 [.agg x.vcells,.c (.int .i64 i)] [] (.c (.bool true)) []:=by
 have p1:decide (x.2.length≤9223372036854775807)=true:=decide_eq_true o1
 have p2:decide (x.3.length≤9223372036854775807)=true:=decide_eq_true o2
 have p3:decide (x.4.length≤9223372036854775807)=true:=decide_eq_true o3
 have p4:decide (x.7.length≤9223372036854775807)=true:=decide_eq_true o4
 cases c:decide (szF 1048576 (x.2.length+x.3.length+x.4.length+x.7.length)<0)with
 |true=>exact meets_of t88 (by kernel_rfl) (by kernel_rfl) (yTX_1 x i) (by simp only[yTX_p1,yTX_p2,yTX_p3,p1,p2,p3,p4,c,bS]) (by simp) (fun cc _=>LcOk.nil)
 |false=>
  have hz:=szF_room (of_decide_eq_false c)
  have a1:decide (x.2.length≤274877906944)=true:=decide_eq_true (by omega)
  have a2:decide (x.3.length≤274877906944)=true:=decide_eq_true (by omega)
  have a3:decide (x.4.length≤274877906944)=true:=decide_eq_true (by omega)
  have a4:decide (x.7.length≤274877906944)=true:=decide_eq_true (by omega)
  obtain⟨g1,g2,g3,g4⟩:=ta_szs x i
  have b1:decide ((taK x i).a.length≤274877906944)=true:=decide_eq_true (by omega)
  have b2:decide ((taK x i).b.length≤274877906944)=true:=decide_eq_true (by omega)
  have b3:decide ((taK x i).c.length≤274877906944)=true:=decide_eq_true (by omega)
  have b4:decide ((taK x i).d.length≤274877906944)=true:=decide_eq_true (by omega)
  exact meets_of t88 (by kernel_rfl) (by kernel_rfl) (yTX_4 x i) (by
   simp only[yTX_p1,yTX_p2,yTX_p3,p1,p2,p3,p4,a1,a2,a3,a4,b1,b2,b3,b4,c,mkI_len,mkB_len,hdI_mk,hdB_mk,bne_self_eq_false,beq_self_eq_true,decide_true,bS]
   omega) (by simp) (fun cc _=>LcOk.nil)
end Go.Proofs.YthapjdpkelihiaaGreat.Am
end
