/- DERIVED. Part 24 of the proof: L2, C83, C84, C105. No statement of the program is proved here. -/
import Derived.Test.YthapjdpkelihiaaGreatX23
import Derived.Deep.Slices
set_option linter.unusedSimpArgs false
set_option linter.unusedVariables false
set_option linter.unusedSectionVars false
namespace Go.Proofs.YthapjdpkelihiaaGreat.Am
section
open Go.RowKit Go.Deep Go.ChangeShapes Go.WideShapes
abbrev VR (w:World) (c:aF) (v:Value):Prop:=CR0 w (fun b=>bH noIds b∨False) noIds c v
structure a74 (P:Program) (t:TypeId) {α:Type} (ok:α→Prop) (cells:α→List aF):Prop where
 rd: ∀ {H:Type} {enc:TypeId×Value→H} {w:World} {base:Nat} {spare:Nat→Bool} {held:Bool} {fuel:Nat} {cs:List Value} {x:DataW H×List MemPlace},
  DataW.trod enc P w base spare held fuel t cs=some x→ ∃a,ok a∧cs.length=(cells a).length∧ ∀i,i<cs.length→VR w ((cells a).getD i .any) (cs.getD i undef)
variable {P : Program} {t e : TypeId}
theorem a74.int {k:IntKind} (hu:P.underlying t=some (.int k)):a74 P t (fun n=>(Lit.int k n).wf=true) (fun n=>[.int k n]):=by
 refine⟨fun {H enc w base spare held fuel cs x} h=> ?_⟩
 obtain⟨m,rfl,rfl,hw⟩:=DataW.trod_int hu h
 exact⟨m,hw,rfl,fun i hi=>by
  match i,hi with
  |0,_=>exact .int k m⟩
theorem a74.bool (hu:P.underlying t=some .bool):a74 P t (fun _=>True) (fun b=>[.bool b]):=by
 refine⟨fun {H enc w base spare held fuel cs x} h=> ?_⟩
 obtain⟨b,rfl,rfl⟩:=DataW.trod_bool hu h
 exact⟨b,trivial,rfl,fun i hi=>by
  match i,hi with
  |0,_=>exact .bool b⟩
theorem a7Q {w:World} {x:Addr} {len cap es:Nat} {c:Con} {u:Nat→Value} (he:0<es) (hz:len*es=c.size) (hl:len≤cap) (hcell: ∀q,q<c.size→w.cell? (x.add q)=some (u q)) (hu: ∀q,q<c.size→VR w (c.cell q) (u q)):VR w (.view none c len es none) (.slice (some x) len cap):=by
 by_cases h0:0<c.size
 ·obtain⟨b,off,spot⟩:=x
  have hspot:spot=none:=by simpa [Addr.add]using World.cell?_spot (hcell 0 h0)
  subst hspot
  refine .view none c len es none b off cap u (fun _ h=> ?_) (fun q hq=> ?_) hu hz hl (fun _ h=>by cases h) (fun _ h=>by cases h)
  ·rcases h with⟨id,h⟩|h
   ·cases h
   ·exact h
  ·have:=hcell q hq
   have ea:(⟨b,off,none⟩:Addr).add q=⟨b,off+q,none⟩:=by
    unfold Addr.add
    split
    ·rename_i h0;subst h0;rfl
    ·rfl
   rwa[ea]at this
 ·have h1:c.size=0:=by omega
  have hl0:len=0:=by
   rcases Nat.eq_zero_or_pos len with h|h
   ·exact h
   ·have:=Nat.mul_pos h he;omega
  subst hl0
  exact .viewNone none c es none (some x) cap h1 (fun _ h=>by cases h) (fun _ h=>by cases h) (fun h=>by cases h)
theorem a7L {w:World} {es:Nat} {c:Con} (hc:c.size=0):VR w (.view none c 0 es none) (.slice none 0 0):=
 .viewNone none c es none none 0 hc (fun _ h=>by cases h) (fun _ h=>by cases h) (fun _=>rfl)
theorem a74.ints {k:IntKind} (hs:P.underlying t=some (.slice e)) (hu:P.underlying e=some (.int k)) (hc:P.cellsOf e=1):
  a74 P t (fun a=>a.length≤maxLen) (fun a=>[.view none (.ints k a) a.length 1 none]):=by
 refine⟨fun {H enc w base spare held fuel cs x} h=> ?_⟩
 rcases open_slice1 hs hc h with⟨rfl,-⟩|⟨a,len,cap,m,n,V,D,Pl,rfl,-,hl,hm,hmm,-,hi⟩
 ·exact⟨[],Nat.zero_le _,rfl,fun i hi=>by
   match i,hi with
   |0,_=>exact a7L rfl⟩
 ·have hg: ∀i,i<len→ ∃z,V i=.int k z:=fun i hl'=>by
   have hlm:i<m:=by rw[hmm];split<;>omega
   obtain⟨z,hz,-⟩:=DataW.trod_int hu (hi i hlm).2
   exact⟨z,by simpa using hz⟩
  refine⟨(List.range len).map fun i=>match V i with|.int _ z=>z|_=>0,by simp;omega,rfl,fun i hi'=> ?_⟩
  match i,hi' with
  |0,_=>
   have hsz:(Con.ints k ((List.range len).map fun i=>match V i with|.int _ z=>z|_=>0)).size=len:=by simp[Con.size]
   have hv:=a7Q (w:=w) (x:=a) (len:=len) (cap:=cap) (es:=1) (c:=.ints k ((List.range len).map fun i=>match V i with|.int _ z=>z|_=>0)) (u:=V) (by omega) (by rw[hsz];omega) hl
    (fun q hq=>by
     rw[hsz]at hq
     have hlm:q<m:=by rw[hmm];split<;>omega
     exact(hi q hlm).1) (fun q hq=>by
     rw[hsz]at hq
     obtain⟨z,hz⟩:=hg q hq
     have e:(Con.ints k ((List.range len).map fun i=>match V i with|.int _ z=>z|_=>0)).cell q=.int k z:=by
      show aF.int k _=_
      rw[List.getD_eq_getElem?_getD,List.getElem?_map,List.getElem?_range hq]
      simp[hz]
     rw[e,hz];exact .int k z)
   simpa using hv
theorem a74.bools (hs:P.underlying t=some (.slice e)) (hu:P.underlying e=some .bool) (hc:P.cellsOf e=1):
  a74 P t (fun a=>a.length≤maxLen) (fun a=>[.view none (.bools a) a.length 1 none]):=by
 refine⟨fun {H enc w base spare held fuel cs x} h=> ?_⟩
 rcases open_slice1 hs hc h with⟨rfl,-⟩|⟨a,len,cap,m,n,V,D,Pl,rfl,-,hl,hm,hmm,-,hi⟩
 ·exact⟨[],Nat.zero_le _,rfl,fun i hi=>by
   match i,hi with
   |0,_=>exact a7L rfl⟩
 ·have hg: ∀i,i<len→ ∃z,V i=.bool z:=fun i hl'=>by
   have hlm:i<m:=by rw[hmm];split<;>omega
   obtain⟨z,hz,-⟩:=DataW.trod_bool hu (hi i hlm).2
   exact⟨z,by simpa using hz⟩
  refine⟨(List.range len).map fun i=>match V i with|.bool z=>z|_=>false,by simp;omega,rfl,fun i hi'=> ?_⟩
  match i,hi' with
  |0,_=>
   have hsz:(Con.bools ((List.range len).map fun i=>match V i with|.bool z=>z|_=>false)).size=len:=by simp[Con.size]
   have hv:=a7Q (w:=w) (x:=a) (len:=len) (cap:=cap) (es:=1) (c:=.bools ((List.range len).map fun i=>match V i with|.bool z=>z|_=>false)) (u:=V) (by omega) (by rw[hsz];omega) hl
    (fun q hq=>by
     rw[hsz]at hq
     have hlm:q<m:=by rw[hmm];split<;>omega
     exact(hi q hlm).1) (fun q hq=>by
     rw[hsz]at hq
     obtain⟨z,hz⟩:=hg q hq
     have e:(Con.bools ((List.range len).map fun i=>match V i with|.bool z=>z|_=>false)).cell q=.bool z:=by
      show aF.bool _=_
      rw[List.getD_eq_getElem?_getD,List.getElem?_map,List.getElem?_range hq]
      simp[hz]
     rw[e,hz];exact .bool z)
   simpa using hv
theorem a85 {cs:List Value} {o s j:Nat} (hj:j<s):((cs.drop o).take s).getD j undef=cs.getD (o+j) undef:=by
 rw[List.getD_eq_getElem?_getD,List.getD_eq_getElem?_getD,List.getElem?_take,if_pos hj,List.getElem?_drop]
theorem a75 {m j:Nat} (h:P.cellsOf t=m) (hj:j<m):j<P.cellsOf t:=by omega
theorem a74.field {H:Type} {enc:TypeId×Value→H} {w:World} {base:Nat} {spare:Nat→Bool} {held:Bool} {n:Nat} {cs:List Value} {fs:Array Field} {xs:List (DataW H×List MemPlace)} {α:Type} {ok:α→Prop} {cells:α→List aF}
  (hl:xs.length=fs.size) (hf: ∀(i:Nat) (f:Field),fs[i]? =some f→DataW.trod enc P w base spare held n f.type ((cs.drop f.offset).take (P.cellsOf f.type))=xs[i]?) {i:Nat} {f:Field} (hi:fs[i]? =some f) (R:a74 P f.type ok cells):
  ∃a,ok a∧ ∀j,j<(cells a).length→j<P.cellsOf f.type→VR w ((cells a).getD j .any) (cs.getD (f.offset+j) undef):=by
 have h:=hf i f hi
 have hil:i<fs.size:=(Array.getElem?_eq_some_iff.1 hi).1
 rw[List.getElem?_eq_getElem (by omega)]at h
 obtain⟨a,h1,h2,h3⟩:=R.rd h
 refine⟨a,h1,fun j hj hj2=> ?_⟩
 have:=h3 j (by omega)
 rwa[a85 hj2]at this
def a79 (s:Int×List Int×List Int×List Bool):List aF:=[.int .i64 s.1,.view none (.ints .i64 s.2.1) s.2.1.length 1 none,.view none (.ints .i64 s.2.2.1) s.2.2.1.length 1 none,.view none (.bools s.2.2.2) s.2.2.2.length 1 none]
theorem a8Q:a74 Tryz.prog 3 (fun n=>(Lit.int .i64 n).wf=true) (fun n=>[.int .i64 n]):=a74.int (P:=Tryz.prog) (t:=3) (k:=.i64) Tryz.underlying3
theorem a9K:a74 Tryz.prog 4 (fun _=>True) (fun b=>[.bool b]):=a74.bool (P:=Tryz.prog) (t:=4) Tryz.underlying4
theorem a86:a74 Tryz.prog 23 (fun a=>a.length≤maxLen) (fun a=>[.view none (.ints .i64 a) a.length 1 none]):=a74.ints (P:=Tryz.prog) (t:=23) (k:=.i64) Tryz.underlying23 Tryz.underlying3 (by kernel_rfl)
theorem a8P:a74 Tryz.prog 24 (fun a=>a.length≤maxLen) (fun a=>[.view none (.bools a) a.length 1 none]):=a74.bools (P:=Tryz.prog) (t:=24) Tryz.underlying24 Tryz.underlying4 (by kernel_rfl)
theorem a7M:a74 Tryz.prog 48 (fun s:Int×List Int×List Int×List Bool=>s.2.1.length≤maxLen∧s.2.2.1.length≤maxLen∧s.2.2.2.length≤maxLen) a79:=by
 refine⟨fun {H enc w base spare held fuel cs x} h=> ?_⟩
 obtain⟨xs,n,-,-,hl,hx,hf⟩:=DataW.trod_struct Tryz.underlying48 h
 have c1:Tryz.prog.cellsOf 3=1:=by kernel_rfl
 have c2:Tryz.prog.cellsOf 23=1:=by kernel_rfl
 have c3:Tryz.prog.cellsOf 24=1:=by kernel_rfl
 have c4:Tryz.prog.cellsOf 48=4:=by kernel_rfl
 obtain⟨k,-,r0⟩:=a74.field hx hf (i:=0) rfl a8Q
 obtain⟨a,o1,r1⟩:=a74.field hx hf (i:=1) rfl a86
 obtain⟨b,o2,r2⟩:=a74.field hx hf (i:=2) rfl a86
 obtain⟨c,o3,r3⟩:=a74.field hx hf (i:=3) rfl a8P
 refine⟨(k,a,b,c),⟨o1,o2,o3⟩,hl.trans c4,fun i hi=> ?_⟩
 rw[hl,c4]at hi
 match i,hi with
 |0,_=>exact r0 0 (by simp) (a75 c1 (by omega))
 |1,_=>exact r1 0 (by simp) (a75 c2 (by omega))
 |2,_=>exact r2 0 (by simp) (a75 c2 (by omega))
 |3,_=>exact r3 0 (by simp) (a75 c3 (by omega))
theorem mxl {n:Nat} (h:n≤maxLen):n≤9223372036854775807:=h
def PK.small (x:PK):Prop:=x.a.length≤9223372036854775807∧x.b.length≤9223372036854775807∧x.c.length≤9223372036854775807∧x.d.length≤9223372036854775807
theorem a7R:a74 Tryz.prog 50 PK.small PK.vcells:=by
 refine⟨fun {H enc w base spare held fuel cs x} h=> ?_⟩
 obtain⟨xs,n,-,-,hl,hx,hf⟩:=DataW.trod_struct Tryz.underlying50 h
 have c1:Tryz.prog.cellsOf 3=1:=by kernel_rfl
 have c2:Tryz.prog.cellsOf 23=1:=by kernel_rfl
 have c3:Tryz.prog.cellsOf 4=1:=by kernel_rfl
 have c4:Tryz.prog.cellsOf 48=4:=by kernel_rfl
 have c5:Tryz.prog.cellsOf 50=8:=by kernel_rfl
 obtain⟨s,⟨o1,o2,o3⟩,r0⟩:=a74.field hx hf (i:=0) rfl a7M
 obtain⟨on,-,r1⟩:=a74.field hx hf (i:=1) rfl a9K
 obtain⟨kd,-,r2⟩:=a74.field hx hf (i:=2) rfl a8Q
 obtain⟨d,o4,r3⟩:=a74.field hx hf (i:=3) rfl a86
 obtain⟨vs,-,r4⟩:=a74.field hx hf (i:=4) rfl a8Q
 refine⟨⟨s.1,s.2.1,s.2.2.1,s.2.2.2,on,kd,d,vs⟩,⟨mxl o1,mxl o2,mxl o3,mxl o4⟩,hl.trans c5,fun i hi=> ?_⟩
 rw[hl,c5]at hi
 match i,hi with
 |0,_=>exact r0 0 (by simp[a79]) (a75 c4 (by omega))
 |1,_=>exact r0 1 (by simp[a79]) (a75 c4 (by omega))
 |2,_=>exact r0 2 (by simp[a79]) (a75 c4 (by omega))
 |3,_=>exact r0 3 (by simp[a79]) (a75 c4 (by omega))
 |4,_=>exact r1 0 (by simp) (a75 c3 (by omega))
 |5,_=>exact r2 0 (by simp) (a75 c1 (by omega))
 |6,_=>exact r3 0 (by simp) (a75 c2 (by omega))
 |7,_=>exact r4 0 (by simp) (a75 c1 (by omega))
theorem a74.agg {H:Type} {enc:TypeId×Value→H} {w:World} {base:Nat} {spare:Nat→Bool} {held:Bool} {v:Value} {d:DataW H} {p:List MemPlace} {fs:Array Field} {α:Type} {ok:α→Prop} {cells:α→List aF} {r:Reach} {b0:Nat}
  (R:a74 P t ok cells) (hs:P.underlying t=some (.struct fs)) (hv:Value.okWide P w r b0 t v) (h:DataW.Trod enc P w base spare held t v d p): ∃a,ok a∧AVR (fun _=>False) w noIds (.agg (cells a)) v:=by
 obtain⟨cs,rfl,hsz⟩:=okWide_struct hs hv
 obtain⟨fuel,hf⟩:=h
 obtain⟨a,h1,h2,h3⟩:=R.rd hf
 simp only[Value.cells]at h2 h3
 refine⟨a,h1,.agg _ _ (by simpa using h2) fun i hi=> ?_⟩
 have:=h3 i (by omega)
 simpa [List.getD_eq_getElem?_getD,Array.getD_eq_getD_getElem?]using this
theorem a84 {f:FuncId} {avs:List AV} (hm:bA Tryz.prog f avs [] (.c (.bool true)) []) {W:World} {vs:List Value} (hl:vs.length=avs.length) (hv: ∀q,q<avs.length→AVR (fun _=>False) W noIds (avs.getD q .any) (vs.getD q undef)):
  Calls Tryz.prog f ⟨vs⟩ W fun e w'=>e=.returned (.bool true)∧Below W.heap.size W w':=by
 refine Calls.mono (hm.2 (a72 W) vs hl hv) ?_
 rintro e w' ⟨v,ρ',rfl,mb,im,m',hr⟩
 refine⟨?_,m'.os,m'.tape,m'.output,m'.size,fun k hk=>m'.keep k hk fun⟨id,h⟩=>by cases h⟩
 cases hr with
 |c x v hx=>cases hx;rfl
end
section
theorem a7N {α:Type} {d:α} {n:Nat} {st:Nat→List α→List α} {a:List α} {g:Nat→α} (ha:a.length=n) (hs: ∀i c,st i c=c.set i (g i)):(bL st n 0 a).length=n∧ ∀i,i<n→(bL st n 0 a).getD i d=g i:=by
 have key:=bB (step:=st) (fun m c=>c.length=n∧ ∀i,i<m→c.getD i d=g i) n a ⟨ha,fun i hi=>by omega⟩ fun m c hm ⟨h1,h2⟩=>⟨by rw[hs,List.length_set];exact h1,fun i hi=>by
  rw[hs,List.getD_eq_getElem?_getD,List.getElem?_set]
  by_cases e:m=i
  ·subst e;rw[if_pos rfl,if_pos (by omega)];rfl
  ·rw[if_neg e,←List.getD_eq_getElem?_getD];exact h2 i (by omega)⟩
 exact key
theorem a8I {α:Type} {d:α} {st:Nat→List α→List α} {a b:List α} (ha:b.length=a.length) (hs: ∀i c,st i c=c.set i (a.getD i d)):bL st a.length 0 b=a:=by
 obtain⟨h1,h2⟩:=a7N (d:=d) ha hs
 exact iK (d:=d) h1 fun i hi=>h2 i (by omega)
noncomputable abbrev fTI:=Tryz.f88
noncomputable def a7K (a c:List Int) (i:Int):St:=aY fTI.ntmps [(0,.c (.view none (.ints .i64 a) a.length 1 none)),(3,.c (.sl 0 0 a.length 1 none)),(4,.c (.int .i64 i))] [.live (.ints .i64 c)]
noncomputable def a8F (n:Nat) (c:List Int):St:=aY fTI.ntmps [(3,.c (.sl 0 0 n 1 none))] [.live (.ints .i64 c)]
theorem a95 (a c:List Int) (i:Int):aC 0 (a8 fTI 0) (aA fTI 0) (aG tt (a9 T77) ([]) 0 100 (a0 0 (a5 fTI)) (a7K a c i) [(0,true)])=
  some (.normal,(decide (i<(↑a.length:Int))&&(decide (0≤i)&&(decide (i<(↑a.length:Int))&&(decide (i.toNat<a.length)&&(decide (0≤i)&&(decide (i<(↑a.length:Int))&&((decide (i.toNat<c.length))&&true))))))),[],a7K a (c.set i.toNat (a.getD i.toNat 0)) (IntKind.i64.wrap (i+1))):=by kernel_rfl
theorem a96 (a c:List Int) (i:Int):aC 0 (a8 fTI 0) (aA fTI 0) (aG tt (a9 T77) ([]) 0 100 (a0 0 (a5 fTI)) (a7K a c i) [(0,false)])=
  some (.exit 0,((!decide (i<(↑a.length:Int)))&&true),[],a8F a.length c):=by kernel_rfl
theorem a9E (a:List Int):aD tt (a9 T77) ([(0,⟨a8 fTI 0,a7K a (List.replicate a.length 0) 0,.normal,a8F a.length a⟩)]) 100 fTI [.c (.view none (.ints .i64 a) a.length 1 none)] [] []=
  some ⟨.c (.sl 0 0 a.length 1 none),[.live (.ints .i64 a)],(decide ((↑a.length:Int)≤(↑a.length:Int))&&((decide ((↑a.length:Int)≤274877906944))&&true)),[a7K a (List.replicate a.length 0) 0=a7K a (List.replicate a.length 0) 0]⟩:=by kernel_rfl
def cpI (a:List Int) (i:Nat) (c:List Int):List Int:=c.set i (a.getD i 0)
theorem aA8 (a:List Int) (hn:a.length≤274877906944):
  aS Tryz.prog 0 (.block 0 (.loop (a0 0 (a5 fTI)))) (a7K a (List.replicate a.length 0) 0) fun e t=>e=.normal∧t=a8F a.length a:=by
 have key:=aS.count hT t77 bK (m:=0) (id:=0) (body:=a0 0 (a5 fTI)) (β:=List Int) a.length (fun _ c=>c.length=a.length) (fun i c=>a7K a c i) (fun c=>a8F a.length c) (cpI a) (a8 fTI 0) (aA fTI 0) (fun _ _=>[]) (fun _ _ _ _=>aI.nil) (fun i c hi hc=>⟨by unfold cpI;rw[List.length_set];exact hc, ?_⟩) (fun c _=>⟨_,_,⟨_,_,a96 a c a.length,by simp,by simp⟩⟩) (List.replicate a.length 0) (by simp)
 ·have er:bL (cpI a) a.length 0 (List.replicate a.length 0)=a:=a8I (d:=0) (by simp) (fun _ _=>rfl)
  rw[er]at key
  exact key
 ·have e:=a95 a c i
  rw[aB (by omega) (by omega),Int.toNat_natCast]at e
  refine⟨_,_,⟨_,_,e, ?_,by simp⟩⟩
  simp only[hc,bS,rpS]
  omega
def a83:aN:=fun args h=>
 match args,h with
 |[.c (.view _ (.ints .i64 a) n1 1 _)],[]=>
  some (.c (.sl 0 0 a.length 1 none),[.live (.ints .i64 a)],[decide (a.length≤274877906944)])
 |_,_=>none
theorem aAG:aT Tryz.prog 88 a83:=by
 intro args h res h' o hnorm he ho
 unfold a83 at he
 split at he
 case h_2=>cases he
 rename_i nl a n1 cap
 simp only[Option.some.injEq,Prod.mk.injEq]at he
 obtain⟨rfl,rfl,rfl⟩:=he
 simp only[List.mem_cons,List.not_mem_nil,or_false,forall_eq_or_imp,forall_eq,decide_eq_true_eq]at ho
 have o1:=ho
 simp only[bE,AV.norm,bF,aF.norm,Con.size,List.cons.injEq,AV.c.injEq,AV.agg.injEq,aF.view.injEq,aL,true_and,and_true]at hnorm
 obtain⟨rfl,rfl,rfl⟩:=hnorm
 exact mo (fn:=fTI) t77 (a9E a) (by simp;omega) (hlc:=(fun cc hcc=>aI.cons (c:=cc) (by cases hcc;kernel_rfl) (by cases hcc;exact aA8 a o1) aI.nil))
noncomputable abbrev fMI:=Tryz.f93
noncomputable def a7I (n:Nat) (k:Int) (c:List Int) (i:Int):St:=aY fMI.ntmps [(0,.c (.sl 0 0 n 1 none)),(1,.c (.int .i64 k)),(5,.c (.int .i64 i))] [.live (.ints .i64 c)]
noncomputable def a8D (k:Int) (c:List Int):St:=aY fMI.ntmps [(1,.c (.int .i64 k))] [.live (.ints .i64 c)]
theorem a91 (n:Nat) (k:Int) (c:List Int) (i:Int):aC 1 (a8 fMI 0) (aA fMI 0) (aG tt (a9 T77) ([]) 1 100 (a0 0 (a5 fMI)) (a7I n k c i) [(0,true)])=
  some (.normal,(decide (i<(↑n:Int))&&(decide (0≤i)&&(decide (i<(↑n:Int))&&((decide (i.toNat<c.length))&&true)))),[],a7I n (IntKind.i64.wrap (k+1)) (c.set i.toNat k) (IntKind.i64.wrap (i+1))):=by kernel_rfl
theorem a92 (n:Nat) (k:Int) (c:List Int) (i:Int):aC 1 (a8 fMI 0) (aA fMI 0) (aG tt (a9 T77) ([]) 1 100 (a0 0 (a5 fMI)) (a7I n k c i) [(0,false)])=
  some (.exit 0,((!decide (i<(↑n:Int)))&&true),[],a8D k c):=by kernel_rfl
theorem a9C (a c:List Int) (k k':Int):aD tt (a9 T77) ([(0,⟨a8 fMI 0,a7I a.length k a 0,.normal,a8D k' c⟩)]) 100 fMI [.c (.sl 0 0 a.length 1 none),.c (.int .i64 k)] [.live (.ints .i64 a)] []=
  some ⟨.c (.int .i64 k'),[.live (.ints .i64 c)],true,[a7I a.length k a 0=a7I a.length k a 0]⟩:=by kernel_rfl
def a8O (k:Int) (i:Nat) (c:List Int):List Int:=c.set i (k+(i:Int))
def a73 (k:Int) (a:List Int):List Int:=bL (a8O k) a.length 0 a
theorem a7B (k:Int) (a:List Int):(a73 k a).length=a.length∧ ∀i,i<a.length→(a73 k a).getD i 0=(k+(i:Int)):=a7N rfl fun _ _=>rfl
theorem aA6 (a:List Int) (k:Int) (hn:a.length≤274877906944) (hk:0≤k) (hk2:k≤4611686018427387904):
  aS Tryz.prog 1 (.block 0 (.loop (a0 0 (a5 fMI)))) (a7I a.length k a 0) fun e t=>e=.normal∧t=a8D (k+(a.length:Int)) (a73 k a):=by
 have key:=aS.count hT t77 bK (m:=1) (id:=0) (body:=a0 0 (a5 fMI)) (β:=List Int) a.length (fun _ c=>c.length=a.length) (fun i c=>a7I a.length (k+(i:Int)) c i) (fun c=>a8D (k+(a.length:Int)) c) (a8O k) (a8 fMI 0) (aA fMI 0) (fun _ _=>[]) (fun _ _ _ _=>aI.nil) (fun i c hi hc=>⟨by unfold a8O;rw[List.length_set];exact hc, ?_⟩) (fun c _=>⟨_,_,⟨_,_,a92 a.length (k+(a.length:Int)) c a.length,by simp,by simp⟩⟩) a rfl
 ·unfold a73;simpa using key
 ·have e:=a91 a.length (k+(i:Int)) c i
  rw[aB (i:=(i:Int)+1) (by omega) (by omega),aB (i:=k+(i:Int)+1) (by omega) (by omega),Int.toNat_natCast,show k+(i:Int)+1=k+((i+1:Nat):Int)from by omega]at e
  refine⟨_,_,⟨_,_,e, ?_,by simp⟩⟩
  simp only[hc,bS,rpS]
  first|omega|(simp;omega)
def a7X:aN:=fun args h=>
 match args,h with
 |[.c (.sl 0 0 n 1 none),.c (.int .i64 k)],[.live (.ints .i64 a)]=>
  some (.c (.int .i64 (k+(a.length:Int))),[.live (.ints .i64 (a73 k a))],[decide (a.length≤274877906944),decide (n=a.length),decide (0≤k),decide (k≤4611686018427387904)])
 |_,_=>none
theorem aAE:aP Tryz.prog 93 a7X:=by
 intro args h res h' o he ho
 unfold a7X at he
 split at he
 case h_2=>cases he
 rename_i n k a
 simp only[Option.some.injEq,Prod.mk.injEq]at he
 obtain⟨rfl,rfl,rfl⟩:=he
 simp only[List.mem_cons,List.not_mem_nil,or_false,forall_eq_or_imp,forall_eq,decide_eq_true_eq]at ho
 obtain⟨o1,o2,o3,o4⟩:=ho
 subst o2
 exact mo (fn:=fMI) t77 (a9C a (a73 k a) k (k+(a.length:Int))) (by simp) (hlc:=(fun cc hcc=>aI.cons (c:=cc) (by cases hcc;kernel_rfl) (by cases hcc;exact aA6 a k o1 o3 o4) aI.nil))
noncomputable abbrev fHI:=Tryz.f95
noncomputable def a7G (a:List Int) (k i:Int):St:=aY fHI.ntmps [(0,.c (.view none (.ints .i64 a) a.length 1 none)),(1,.c (.int .i64 k)),(5,.c (.int .i64 i))] []
noncomputable def a8B (k:Int):St:=aY fHI.ntmps [(1,.c (.int .i64 k))] []
theorem a8X (a:List Int) (k i:Int):aC 0 (a8 fHI 0) (aA fHI 0) (aG tt (a9 T77) ([]) 0 100 (a0 0 (a5 fHI)) (a7G a k i) [(0,true),(0,false)])=
  some (.normal,(decide (i<(↑a.length:Int))&&(decide (0≤i)&&(decide (i<(↑a.length:Int))&&(decide (i.toNat<a.length)&&((!a.getD i.toNat 0 !=k)&&true))))),[],a7G a (IntKind.i64.wrap (k+1)) (IntKind.i64.wrap (i+1))):=by kernel_rfl
theorem a8Y (a:List Int) (k i:Int):aC 0 (a8 fHI 0) (aA fHI 0) (aG tt (a9 T77) ([]) 0 100 (a0 0 (a5 fHI)) (a7G a k i) [(0,false)])=
  some (.exit 0,((!decide (i<(↑a.length:Int)))&&true),[],a8B k):=by kernel_rfl
theorem a9A (a:List Int) (k k':Int):aD tt (a9 T77) ([(0,⟨a8 fHI 0,a7G a k 0,.normal,a8B k'⟩)]) 100 fHI [.c (.view none (.ints .i64 a) a.length 1 none),.c (.int .i64 k)] [] []=
  some ⟨.c (.int .i64 k'),[],true,[a7G a k 0=a7G a k 0]⟩:=by kernel_rfl
def hdI (k:Int) (a:List Int):Bool:=c9 (fun i=>a.getD i 0==(k+(i:Int))) a.length 0
theorem a8L (k:Int) (a:List Int):hdI k (a73 k a)=true:=by
 obtain⟨h1,h2⟩:=a7B k a
 unfold hdI
 rw[bX]
 intro i _ hi
 rw[h2 i (by omega),beq_self_eq_true]
theorem aA4 (a:List Int) (k:Int) (hn:a.length≤274877906944) (hk:0≤k) (hk2:k≤4611686018427387904) (hh:hdI k a=true):
  aS Tryz.prog 0 (.block 0 (.loop (a0 0 (a5 fHI)))) (a7G a k 0) fun e t=>e=.normal∧t=a8B (k+(a.length:Int)):=by
 have hh:=bX.1 hh
 have key:=aS.count hT t77 bK (m:=0) (id:=0) (body:=a0 0 (a5 fHI)) (β:=Unit) a.length (fun _ _=>True) (fun i _=>a7G a (k+(i:Int)) i) (fun _=>a8B (k+(a.length:Int))) (fun _ _=>()) (a8 fHI 0) (aA fHI 0) (fun _ _=>[]) (fun _ _ _ _=>aI.nil) (fun i _ hi _=>⟨trivial, ?_⟩) (fun _ _=>⟨_,_,⟨_,_,a8Y a (k+(a.length:Int)) a.length,by simp,by simp⟩⟩) () trivial
 ·simpa using key
 ·have hv:=hh i (by omega) (by omega)
  have hv:=beq_iff_eq.1 hv
  have e:=a8X a (k+(i:Int)) i
  rw[aB (i:=(i:Int)+1) (by omega) (by omega),aB (i:=k+(i:Int)+1) (by omega) (by omega),Int.toNat_natCast,show k+(i:Int)+1=k+((i+1:Nat):Int)from by omega]at e
  refine⟨_,_,⟨_,_,e, ?_,by simp⟩⟩
  simp only[hv,bne_self_eq_false,beq_self_eq_true,bS,rpS]
  first|omega|(simp;omega)
def a7V:aN:=fun args h=>
 match args,h with
 |[.c (.view _ (.ints .i64 a) n1 1 _),.c (.int .i64 k)],[]=>
  some (.c (.int .i64 (k+(a.length:Int))),[],[decide (a.length≤274877906944),decide (0≤k),decide (k≤4611686018427387904),hdI k a])
 |_,_=>none
theorem aAC:aT Tryz.prog 95 a7V:=by
 intro args h res h' o hnorm he ho
 unfold a7V at he
 split at he
 case h_2=>cases he
 rename_i nl a n1 cap k
 simp only[Option.some.injEq,Prod.mk.injEq]at he
 obtain⟨rfl,rfl,rfl⟩:=he
 simp only[List.mem_cons,List.not_mem_nil,or_false,forall_eq_or_imp,forall_eq,decide_eq_true_eq]at ho
 obtain⟨o1,o2,o3,o4⟩:=ho
 simp only[bE,AV.norm,bF,aF.norm,Con.size,List.cons.injEq,AV.c.injEq,AV.agg.injEq,aF.view.injEq,aL,true_and,and_true]at hnorm
 obtain⟨rfl,rfl,rfl⟩:=hnorm
 exact mo (fn:=fHI) t77 (a9A a k (k+(a.length:Int))) (by simp) (hlc:=(fun cc hcc=>aI.cons (c:=cc) (by cases hcc;kernel_rfl) (by cases hcc;exact aA4 a k o1 o2 o3 o4) aI.nil))
noncomputable abbrev fEI:=Tryz.f91
noncomputable def a7E (a:List Int) (i:Int):St:=aY fEI.ntmps [(0,.c (.view none (.ints .i64 a) a.length 1 none)),(1,.c (.view none (.ints .i64 a) a.length 1 none)),(5,.c (.int .i64 i))] []
noncomputable def a89:St:=aY fEI.ntmps [] []
theorem a8T (a:List Int) (i:Int):aC 0 (a8 fEI 0) (aA fEI 0) (aG tt (a9 T77) ([]) 0 100 (a0 0 (a5 fEI)) (a7E a i) [(0,true),(0,false)])=
  some (.normal,(decide (i<(↑a.length:Int))&&(decide (0≤i)&&(decide (i<(↑a.length:Int))&&(decide (i.toNat<a.length)&&(decide (0≤i)&&(decide (i<(↑a.length:Int))&&(decide (i.toNat<a.length)&&((!a.getD i.toNat 0 !=a.getD i.toNat 0)&&true)))))))),[],a7E a (IntKind.i64.wrap (i+1))):=by kernel_rfl
theorem a8U (a:List Int) (i:Int):aC 0 (a8 fEI 0) (aA fEI 0) (aG tt (a9 T77) ([]) 0 100 (a0 0 (a5 fEI)) (a7E a i) [(0,false)])=
  some (.exit 0,((!decide (i<(↑a.length:Int)))&&true),[],a89):=by kernel_rfl
theorem a98 (a:List Int):aD tt (a9 T77) ([(0,⟨a8 fEI 0,a7E a 0,.normal,a89⟩)]) 100 fEI [.c (.view none (.ints .i64 a) a.length 1 none),.c (.view none (.ints .i64 a) a.length 1 none)] [] [(0,false)]=
  some ⟨.c (.bool true),[],((!(↑a.length:Int)!=(↑a.length:Int))&&true),[a7E a 0=a7E a 0]⟩:=by kernel_rfl
theorem aA2 (a:List Int) (hn:a.length≤274877906944):
  aS Tryz.prog 0 (.block 0 (.loop (a0 0 (a5 fEI)))) (a7E a 0) fun e t=>e=.normal∧t=a89:=by
 refine aS.count hT t77 bK (m:=0) (id:=0) (body:=a0 0 (a5 fEI)) (β:=Unit) a.length (fun _ _=>True) (fun i _=>a7E a i) (fun _=>a89) (fun _ _=>()) (a8 fEI 0) (aA fEI 0) (fun _ _=>[]) (fun _ _ _ _=>aI.nil) (fun i _ hi _=>⟨trivial, ?_⟩) (fun _ _=>⟨_,_,⟨_,_,a8U a a.length,by simp,by simp⟩⟩) () trivial
 have e:=a8T a i
 rw[aB (i:=(i:Int)+1) (by omega) (by omega),Int.toNat_natCast]at e
 refine⟨_,_,⟨_,_,e, ?_,by simp⟩⟩
 simp only[bne_self_eq_false,beq_self_eq_true,bS,rpS]
 first|omega|(simp;omega)
def a7T:aN:=fun args h=>
 match args,h with
 |[.c (.view _ (.ints .i64 a) n1 1 _),.c (.view _ (.ints .i64 b) n2 1 _)],[]=>
  some (.c (.bool true),[],[decide (a.length≤274877906944),decide (a=b)])
 |_,_=>none
theorem aAA:aT Tryz.prog 91 a7T:=by
 intro args h res h' o hnorm he ho
 unfold a7T at he
 split at he
 case h_2=>cases he
 rename_i nl a n1 cap nl2 b n2 cap2
 simp only[Option.some.injEq,Prod.mk.injEq]at he
 obtain⟨rfl,rfl,rfl⟩:=he
 simp only[List.mem_cons,List.not_mem_nil,or_false,forall_eq_or_imp,forall_eq,decide_eq_true_eq]at ho
 obtain⟨o1,o2⟩:=ho
 simp only[bE,AV.norm,bF,aF.norm,Con.size,List.cons.injEq,AV.c.injEq,AV.agg.injEq,aF.view.injEq,aL,true_and,and_true]at hnorm
 obtain⟨⟨rfl,rfl,rfl⟩,rfl,rfl,rfl⟩:=hnorm
 subst o2
 exact mo (fn:=fEI) t77 (a98 a) (by simp) (hlc:=(fun cc hcc=>aI.cons (c:=cc) (by cases hcc;kernel_rfl) (by cases hcc;exact aA2 a o1) aI.nil))
theorem a9H (a:List Int) (l:Int):aD tt (a9 T77) ([]) 100 Tryz.f85 [.c (.view none (.ints .i64 a) a.length 1 none),.c (.int .i64 l)] [] [(0,true)]=
  some ⟨.c (.int .i64 (-1)),[],((decide (IntKind.i64.wrap (l-(↑a.length:Int))<0))&&true),[]⟩:=by kernel_rfl
theorem a9I (a:List Int) (l:Int):aD tt (a9 T77) ([]) 100 Tryz.f85 [.c (.view none (.ints .i64 a) a.length 1 none),.c (.int .i64 l)] [] [(0,false)]=
  some ⟨.c (.int .i64 (IntKind.i64.wrap (l-(↑a.length:Int)))),[],((!decide (IntKind.i64.wrap (l-(↑a.length:Int))<0))&&true),[]⟩:=by kernel_rfl
def szF (l:Int) (n:Nat):Int:=bif decide (l-(n:Int)<0)then -1 else l-(n:Int)
def a7Z:aN:=fun args h=>
 match args,h with
 |[.c (.view _ (.ints .i64 a) n1 1 _),.c (.int .i64 l)],[]=>
  some (.c (.int .i64 (szF l a.length)),[],[decide (a.length≤9223372036854775807),decide (0≤l),decide (l≤1048576)])
 |_,_=>none
theorem aAI:aT Tryz.prog 85 a7Z:=by
 intro args h res h' o hnorm he ho
 unfold a7Z at he
 split at he
 case h_2=>cases he
 rename_i nl a n1 cap l
 simp only[Option.some.injEq,Prod.mk.injEq]at he
 obtain⟨rfl,rfl,rfl⟩:=he
 simp only[List.mem_cons,List.not_mem_nil,or_false,forall_eq_or_imp,forall_eq,decide_eq_true_eq]at ho
 obtain⟨o1,o2,o3⟩:=ho
 simp only[bE,AV.norm,bF,aF.norm,Con.size,List.cons.injEq,AV.c.injEq,AV.agg.injEq,aF.view.injEq,aL,true_and,and_true]at hnorm
 obtain⟨rfl,rfl,rfl⟩:=hnorm
 unfold szF
 have w:IntKind.i64.wrap (l-(a.length:Int))=l-(a.length:Int):=by
  simp only[IntKind.wrap,IntKind.bits,IntKind.signed];simp;omega
 cases c:decide (l-(a.length:Int)<0)with
 |true=>exact mo t77 (a9H a l) (by rw[w,c];rfl)
 |false=>
  have e:=a9I a l
  rw[w]at e
  exact mo t77 e (by rw[c];rfl)
noncomputable abbrev fTB:=Tryz.f138
noncomputable def a7J (a c:List Bool) (i:Int):St:=aY fTB.ntmps [(0,.c (.view none (.bools a) a.length 1 none)),(3,.c (.sl 0 0 a.length 1 none)),(4,.c (.int .i64 i))] [.live (.bools c)]
noncomputable def a8E (n:Nat) (c:List Bool):St:=aY fTB.ntmps [(3,.c (.sl 0 0 n 1 none))] [.live (.bools c)]
theorem a93 (a c:List Bool) (i:Int):aC 0 (a8 fTB 0) (aA fTB 0) (aG tt (a9 T77) ([]) 0 100 (a0 0 (a5 fTB)) (a7J a c i) [(0,true)])=
  some (.normal,(decide (i<(↑a.length:Int))&&(decide (0≤i)&&(decide (i<(↑a.length:Int))&&(decide (i.toNat<a.length)&&(decide (0≤i)&&(decide (i<(↑a.length:Int))&&((decide (i.toNat<c.length))&&true))))))),[],a7J a (c.set i.toNat (a.getD i.toNat false)) (IntKind.i64.wrap (i+1))):=by kernel_rfl
theorem a94 (a c:List Bool) (i:Int):aC 0 (a8 fTB 0) (aA fTB 0) (aG tt (a9 T77) ([]) 0 100 (a0 0 (a5 fTB)) (a7J a c i) [(0,false)])=
  some (.exit 0,((!decide (i<(↑a.length:Int)))&&true),[],a8E a.length c):=by kernel_rfl
theorem a9D (a:List Bool):aD tt (a9 T77) ([(0,⟨a8 fTB 0,a7J a (List.replicate a.length false) 0,.normal,a8E a.length a⟩)]) 100 fTB [.c (.view none (.bools a) a.length 1 none)] [] []=
  some ⟨.c (.sl 0 0 a.length 1 none),[.live (.bools a)],(decide ((↑a.length:Int)≤(↑a.length:Int))&&((decide ((↑a.length:Int)≤274877906944))&&true)),[a7J a (List.replicate a.length false) 0=a7J a (List.replicate a.length false) 0]⟩:=by kernel_rfl
def cpB (a:List Bool) (i:Nat) (c:List Bool):List Bool:=c.set i (a.getD i false)
theorem aA7 (a:List Bool) (hn:a.length≤274877906944):
  aS Tryz.prog 0 (.block 0 (.loop (a0 0 (a5 fTB)))) (a7J a (List.replicate a.length false) 0) fun e t=>e=.normal∧t=a8E a.length a:=by
 have key:=aS.count hT t77 bK (m:=0) (id:=0) (body:=a0 0 (a5 fTB)) (β:=List Bool) a.length (fun _ c=>c.length=a.length) (fun i c=>a7J a c i) (fun c=>a8E a.length c) (cpB a) (a8 fTB 0) (aA fTB 0) (fun _ _=>[]) (fun _ _ _ _=>aI.nil) (fun i c hi hc=>⟨by unfold cpB;rw[List.length_set];exact hc, ?_⟩) (fun c _=>⟨_,_,⟨_,_,a94 a c a.length,by simp,by simp⟩⟩) (List.replicate a.length false) (by simp)
 ·have er:bL (cpB a) a.length 0 (List.replicate a.length false)=a:=a8I (d:=false) (by simp) (fun _ _=>rfl)
  rw[er]at key
  exact key
 ·have e:=a93 a c i
  rw[aB (by omega) (by omega),Int.toNat_natCast]at e
  refine⟨_,_,⟨_,_,e, ?_,by simp⟩⟩
  simp only[hc,bS,rpS]
  omega
def a82:aN:=fun args h=>
 match args,h with
 |[.c (.view _ (.bools a) n1 1 _)],[]=>
  some (.c (.sl 0 0 a.length 1 none),[.live (.bools a)],[decide (a.length≤274877906944)])
 |_,_=>none
theorem aAF:aT Tryz.prog 138 a82:=by
 intro args h res h' o hnorm he ho
 unfold a82 at he
 split at he
 case h_2=>cases he
 rename_i nl a n1 cap
 simp only[Option.some.injEq,Prod.mk.injEq]at he
 obtain⟨rfl,rfl,rfl⟩:=he
 simp only[List.mem_cons,List.not_mem_nil,or_false,forall_eq_or_imp,forall_eq,decide_eq_true_eq]at ho
 have o1:=ho
 simp only[bE,AV.norm,bF,aF.norm,Con.size,List.cons.injEq,AV.c.injEq,AV.agg.injEq,aF.view.injEq,aL,true_and,and_true]at hnorm
 obtain⟨rfl,rfl,rfl⟩:=hnorm
 exact mo (fn:=fTB) t77 (a9D a) (by simp;omega) (hlc:=(fun cc hcc=>aI.cons (c:=cc) (by cases hcc;kernel_rfl) (by cases hcc;exact aA7 a o1) aI.nil))
noncomputable abbrev fMB:=Tryz.f140
noncomputable def a7H (n:Nat) (k:Int) (c:List Bool) (i:Int):St:=aY fMB.ntmps [(0,.c (.sl 0 0 n 1 none)),(1,.c (.int .i64 k)),(5,.c (.int .i64 i))] [.live (.bools c)]
noncomputable def a8C (k:Int) (c:List Bool):St:=aY fMB.ntmps [(1,.c (.int .i64 k))] [.live (.bools c)]
theorem a8Z (n:Nat) (k:Int) (c:List Bool) (i:Int):aC 1 (a8 fMB 0) (aA fMB 0) (aG tt (a9 T77) ([]) 1 100 (a0 0 (a5 fMB)) (a7H n k c i) [(0,true)])=
  some (.normal,(decide (i<(↑n:Int))&&(decide (0≤i)&&(decide (i<(↑n:Int))&&((decide (i.toNat<c.length))&&true)))),[],a7H n (IntKind.i64.wrap (k+1)) (c.set i.toNat (k.tmod 3==0)) (IntKind.i64.wrap (i+1))):=by kernel_rfl
theorem a90 (n:Nat) (k:Int) (c:List Bool) (i:Int):aC 1 (a8 fMB 0) (aA fMB 0) (aG tt (a9 T77) ([]) 1 100 (a0 0 (a5 fMB)) (a7H n k c i) [(0,false)])=
  some (.exit 0,((!decide (i<(↑n:Int)))&&true),[],a8C k c):=by kernel_rfl
theorem a9B (a c:List Bool) (k k':Int):aD tt (a9 T77) ([(0,⟨a8 fMB 0,a7H a.length k a 0,.normal,a8C k' c⟩)]) 100 fMB [.c (.sl 0 0 a.length 1 none),.c (.int .i64 k)] [.live (.bools a)] []=
  some ⟨.c (.int .i64 k'),[.live (.bools c)],true,[a7H a.length k a 0=a7H a.length k a 0]⟩:=by kernel_rfl
def a8N (k:Int) (i:Nat) (c:List Bool):List Bool:=c.set i ((k+(i:Int)).tmod 3==0)
def a78 (k:Int) (a:List Bool):List Bool:=bL (a8N k) a.length 0 a
theorem a7A (k:Int) (a:List Bool):(a78 k a).length=a.length∧ ∀i,i<a.length→(a78 k a).getD i false=((k+(i:Int)).tmod 3==0):=a7N rfl fun _ _=>rfl
theorem aA5 (a:List Bool) (k:Int) (hn:a.length≤274877906944) (hk:0≤k) (hk2:k≤4611686018427387904):
  aS Tryz.prog 1 (.block 0 (.loop (a0 0 (a5 fMB)))) (a7H a.length k a 0) fun e t=>e=.normal∧t=a8C (k+(a.length:Int)) (a78 k a):=by
 have key:=aS.count hT t77 bK (m:=1) (id:=0) (body:=a0 0 (a5 fMB)) (β:=List Bool) a.length (fun _ c=>c.length=a.length) (fun i c=>a7H a.length (k+(i:Int)) c i) (fun c=>a8C (k+(a.length:Int)) c) (a8N k) (a8 fMB 0) (aA fMB 0) (fun _ _=>[]) (fun _ _ _ _=>aI.nil) (fun i c hi hc=>⟨by unfold a8N;rw[List.length_set];exact hc, ?_⟩) (fun c _=>⟨_,_,⟨_,_,a90 a.length (k+(a.length:Int)) c a.length,by simp,by simp⟩⟩) a rfl
 ·unfold a78;simpa using key
 ·have e:=a8Z a.length (k+(i:Int)) c i
  rw[aB (i:=(i:Int)+1) (by omega) (by omega),aB (i:=k+(i:Int)+1) (by omega) (by omega),Int.toNat_natCast,show k+(i:Int)+1=k+((i+1:Nat):Int)from by omega]at e
  refine⟨_,_,⟨_,_,e, ?_,by simp⟩⟩
  simp only[hc,bS,rpS]
  first|omega|(simp;omega)
def a7W:aN:=fun args h=>
 match args,h with
 |[.c (.sl 0 0 n 1 none),.c (.int .i64 k)],[.live (.bools a)]=>
  some (.c (.int .i64 (k+(a.length:Int))),[.live (.bools (a78 k a))],[decide (a.length≤274877906944),decide (n=a.length),decide (0≤k),decide (k≤4611686018427387904)])
 |_,_=>none
theorem aAD:aP Tryz.prog 140 a7W:=by
 intro args h res h' o he ho
 unfold a7W at he
 split at he
 case h_2=>cases he
 rename_i n k a
 simp only[Option.some.injEq,Prod.mk.injEq]at he
 obtain⟨rfl,rfl,rfl⟩:=he
 simp only[List.mem_cons,List.not_mem_nil,or_false,forall_eq_or_imp,forall_eq,decide_eq_true_eq]at ho
 obtain⟨o1,o2,o3,o4⟩:=ho
 subst o2
 exact mo (fn:=fMB) t77 (a9B a (a78 k a) k (k+(a.length:Int))) (by simp) (hlc:=(fun cc hcc=>aI.cons (c:=cc) (by cases hcc;kernel_rfl) (by cases hcc;exact aA5 a k o1 o3 o4) aI.nil))
noncomputable abbrev fHB:=Tryz.f141
noncomputable def a7F (a:List Bool) (k i:Int):St:=aY fHB.ntmps [(0,.c (.view none (.bools a) a.length 1 none)),(1,.c (.int .i64 k)),(5,.c (.int .i64 i))] []
noncomputable def a8A (k:Int):St:=aY fHB.ntmps [(1,.c (.int .i64 k))] []
theorem a8V (a:List Bool) (k i:Int):aC 0 (a8 fHB 0) (aA fHB 0) (aG tt (a9 T77) ([]) 0 100 (a0 0 (a5 fHB)) (a7F a k i) [(0,true),(0,false)])=
  some (.normal,(decide (i<(↑a.length:Int))&&(decide (0≤i)&&(decide (i<(↑a.length:Int))&&(decide (i.toNat<a.length)&&((!!a.getD i.toNat false==(k.tmod 3==0))&&true))))),[],a7F a (IntKind.i64.wrap (k+1)) (IntKind.i64.wrap (i+1))):=by kernel_rfl
theorem a8W (a:List Bool) (k i:Int):aC 0 (a8 fHB 0) (aA fHB 0) (aG tt (a9 T77) ([]) 0 100 (a0 0 (a5 fHB)) (a7F a k i) [(0,false)])=
  some (.exit 0,((!decide (i<(↑a.length:Int)))&&true),[],a8A k):=by kernel_rfl
theorem a99 (a:List Bool) (k k':Int):aD tt (a9 T77) ([(0,⟨a8 fHB 0,a7F a k 0,.normal,a8A k'⟩)]) 100 fHB [.c (.view none (.bools a) a.length 1 none),.c (.int .i64 k)] [] []=
  some ⟨.c (.int .i64 k'),[],true,[a7F a k 0=a7F a k 0]⟩:=by kernel_rfl
def hdB (k:Int) (a:List Bool):Bool:=c9 (fun i=>a.getD i false==((k+(i:Int)).tmod 3==0)) a.length 0
theorem a8K (k:Int) (a:List Bool):hdB k (a78 k a)=true:=by
 obtain⟨h1,h2⟩:=a7A k a
 unfold hdB
 rw[bX]
 intro i _ hi
 rw[h2 i (by omega),beq_self_eq_true]
theorem aA3 (a:List Bool) (k:Int) (hn:a.length≤274877906944) (hk:0≤k) (hk2:k≤4611686018427387904) (hh:hdB k a=true):
  aS Tryz.prog 0 (.block 0 (.loop (a0 0 (a5 fHB)))) (a7F a k 0) fun e t=>e=.normal∧t=a8A (k+(a.length:Int)):=by
 have hh:=bX.1 hh
 have key:=aS.count hT t77 bK (m:=0) (id:=0) (body:=a0 0 (a5 fHB)) (β:=Unit) a.length (fun _ _=>True) (fun i _=>a7F a (k+(i:Int)) i) (fun _=>a8A (k+(a.length:Int))) (fun _ _=>()) (a8 fHB 0) (aA fHB 0) (fun _ _=>[]) (fun _ _ _ _=>aI.nil) (fun i _ hi _=>⟨trivial, ?_⟩) (fun _ _=>⟨_,_,⟨_,_,a8W a (k+(a.length:Int)) a.length,by simp,by simp⟩⟩) () trivial
 ·simpa using key
 ·have hv:=hh i (by omega) (by omega)
  have hv:=beq_iff_eq.1 hv
  have e:=a8V a (k+(i:Int)) i
  rw[aB (i:=(i:Int)+1) (by omega) (by omega),aB (i:=k+(i:Int)+1) (by omega) (by omega),Int.toNat_natCast,show k+(i:Int)+1=k+((i+1:Nat):Int)from by omega]at e
  refine⟨_,_,⟨_,_,e, ?_,by simp⟩⟩
  simp only[hv,bne_self_eq_false,beq_self_eq_true,bS,rpS]
  first|omega|(simp;omega)
def a7U:aN:=fun args h=>
 match args,h with
 |[.c (.view _ (.bools a) n1 1 _),.c (.int .i64 k)],[]=>
  some (.c (.int .i64 (k+(a.length:Int))),[],[decide (a.length≤274877906944),decide (0≤k),decide (k≤4611686018427387904),hdB k a])
 |_,_=>none
theorem aAB:aT Tryz.prog 141 a7U:=by
 intro args h res h' o hnorm he ho
 unfold a7U at he
 split at he
 case h_2=>cases he
 rename_i nl a n1 cap k
 simp only[Option.some.injEq,Prod.mk.injEq]at he
 obtain⟨rfl,rfl,rfl⟩:=he
 simp only[List.mem_cons,List.not_mem_nil,or_false,forall_eq_or_imp,forall_eq,decide_eq_true_eq]at ho
 obtain⟨o1,o2,o3,o4⟩:=ho
 simp only[bE,AV.norm,bF,aF.norm,Con.size,List.cons.injEq,AV.c.injEq,AV.agg.injEq,aF.view.injEq,aL,true_and,and_true]at hnorm
 obtain⟨rfl,rfl,rfl⟩:=hnorm
 exact mo (fn:=fHB) t77 (a99 a k (k+(a.length:Int))) (by simp) (hlc:=(fun cc hcc=>aI.cons (c:=cc) (by cases hcc;kernel_rfl) (by cases hcc;exact aA3 a k o1 o2 o3 o4) aI.nil))
noncomputable abbrev fEB:=Tryz.f139
noncomputable def a7D (a:List Bool) (i:Int):St:=aY fEB.ntmps [(0,.c (.view none (.bools a) a.length 1 none)),(1,.c (.view none (.bools a) a.length 1 none)),(5,.c (.int .i64 i))] []
noncomputable def a88:St:=aY fEB.ntmps [] []
theorem a8R (a:List Bool) (i:Int):aC 0 (a8 fEB 0) (aA fEB 0) (aG tt (a9 T77) ([]) 0 100 (a0 0 (a5 fEB)) (a7D a i) [(0,true),(0,false)])=
  some (.normal,(decide (i<(↑a.length:Int))&&(decide (0≤i)&&(decide (i<(↑a.length:Int))&&(decide (i.toNat<a.length)&&(decide (0≤i)&&(decide (i<(↑a.length:Int))&&(decide (i.toNat<a.length)&&((!!a.getD i.toNat false==a.getD i.toNat false)&&true)))))))),[],a7D a (IntKind.i64.wrap (i+1))):=by kernel_rfl
theorem a8S (a:List Bool) (i:Int):aC 0 (a8 fEB 0) (aA fEB 0) (aG tt (a9 T77) ([]) 0 100 (a0 0 (a5 fEB)) (a7D a i) [(0,false)])=
  some (.exit 0,((!decide (i<(↑a.length:Int)))&&true),[],a88):=by kernel_rfl
theorem a97 (a:List Bool):aD tt (a9 T77) ([(0,⟨a8 fEB 0,a7D a 0,.normal,a88⟩)]) 100 fEB [.c (.view none (.bools a) a.length 1 none),.c (.view none (.bools a) a.length 1 none)] [] [(0,false)]=
  some ⟨.c (.bool true),[],((!(↑a.length:Int)!=(↑a.length:Int))&&true),[a7D a 0=a7D a 0]⟩:=by kernel_rfl
theorem aA1 (a:List Bool) (hn:a.length≤274877906944):
  aS Tryz.prog 0 (.block 0 (.loop (a0 0 (a5 fEB)))) (a7D a 0) fun e t=>e=.normal∧t=a88:=by
 refine aS.count hT t77 bK (m:=0) (id:=0) (body:=a0 0 (a5 fEB)) (β:=Unit) a.length (fun _ _=>True) (fun i _=>a7D a i) (fun _=>a88) (fun _ _=>()) (a8 fEB 0) (aA fEB 0) (fun _ _=>[]) (fun _ _ _ _=>aI.nil) (fun i _ hi _=>⟨trivial, ?_⟩) (fun _ _=>⟨_,_,⟨_,_,a8S a a.length,by simp,by simp⟩⟩) () trivial
 have e:=a8R a i
 rw[aB (i:=(i:Int)+1) (by omega) (by omega),Int.toNat_natCast]at e
 refine⟨_,_,⟨_,_,e, ?_,by simp⟩⟩
 simp only[bne_self_eq_false,beq_self_eq_true,bS,rpS]
 first|omega|(simp;omega)
def a7S:aN:=fun args h=>
 match args,h with
 |[.c (.view _ (.bools a) n1 1 _),.c (.view _ (.bools b) n2 1 _)],[]=>
  some (.c (.bool true),[],[decide (a.length≤274877906944),decide (a=b)])
 |_,_=>none
theorem aA9:aT Tryz.prog 139 a7S:=by
 intro args h res h' o hnorm he ho
 unfold a7S at he
 split at he
 case h_2=>cases he
 rename_i nl a n1 cap nl2 b n2 cap2
 simp only[Option.some.injEq,Prod.mk.injEq]at he
 obtain⟨rfl,rfl,rfl⟩:=he
 simp only[List.mem_cons,List.not_mem_nil,or_false,forall_eq_or_imp,forall_eq,decide_eq_true_eq]at ho
 obtain⟨o1,o2⟩:=ho
 simp only[bE,AV.norm,bF,aF.norm,Con.size,List.cons.injEq,AV.c.injEq,AV.agg.injEq,aF.view.injEq,aL,true_and,and_true]at hnorm
 obtain⟨⟨rfl,rfl,rfl⟩,rfl,rfl,rfl⟩:=hnorm
 subst o2
 exact mo (fn:=fEB) t77 (a97 a) (by simp) (hlc:=(fun cc hcc=>aI.cons (c:=cc) (by cases hcc;kernel_rfl) (by cases hcc;exact aA1 a o1) aI.nil))
theorem a9F (a:List Bool) (l:Int):aD tt (a9 T77) ([]) 100 Tryz.f136 [.c (.view none (.bools a) a.length 1 none),.c (.int .i64 l)] [] [(0,true)]=
  some ⟨.c (.int .i64 (-1)),[],((decide (IntKind.i64.wrap (l-(↑a.length:Int))<0))&&true),[]⟩:=by kernel_rfl
theorem a9G (a:List Bool) (l:Int):aD tt (a9 T77) ([]) 100 Tryz.f136 [.c (.view none (.bools a) a.length 1 none),.c (.int .i64 l)] [] [(0,false)]=
  some ⟨.c (.int .i64 (IntKind.i64.wrap (l-(↑a.length:Int)))),[],((!decide (IntKind.i64.wrap (l-(↑a.length:Int))<0))&&true),[]⟩:=by kernel_rfl
def a7Y:aN:=fun args h=>
 match args,h with
 |[.c (.view _ (.bools a) n1 1 _),.c (.int .i64 l)],[]=>
  some (.c (.int .i64 (szF l a.length)),[],[decide (a.length≤9223372036854775807),decide (0≤l),decide (l≤1048576)])
 |_,_=>none
theorem aAH:aT Tryz.prog 136 a7Y:=by
 intro args h res h' o hnorm he ho
 unfold a7Y at he
 split at he
 case h_2=>cases he
 rename_i nl a n1 cap l
 simp only[Option.some.injEq,Prod.mk.injEq]at he
 obtain⟨rfl,rfl,rfl⟩:=he
 simp only[List.mem_cons,List.not_mem_nil,or_false,forall_eq_or_imp,forall_eq,decide_eq_true_eq]at ho
 obtain⟨o1,o2,o3⟩:=ho
 simp only[bE,AV.norm,bF,aF.norm,Con.size,List.cons.injEq,AV.c.injEq,AV.agg.injEq,aF.view.injEq,aL,true_and,and_true]at hnorm
 obtain⟨rfl,rfl,rfl⟩:=hnorm
 unfold szF
 have w:IntKind.i64.wrap (l-(a.length:Int))=l-(a.length:Int):=by
  simp only[IntKind.wrap,IntKind.bits,IntKind.signed];simp;omega
 cases c:decide (l-(a.length:Int)<0)with
 |true=>exact mo t77 (a9F a l) (by rw[w,c];rfl)
 |false=>
  have e:=a9G a l
  rw[w]at e
  exact mo t77 e (by rw[c];rfl)
end
section
noncomputable def T80:List bD:=[⟨88,[],nm a83⟩,⟨138,[],nm a82⟩,⟨93,[0],a7X⟩,⟨140,[0],a7W⟩,⟨95,[],nm a7V⟩,⟨141,[],nm a7U⟩,⟨91,[],nm a7T⟩,⟨139,[],nm a7S⟩,⟨85,[],nm a7Z⟩,⟨136,[],nm a7Y⟩,⟨64,[],nm wN⟩]++T77
theorem e80:a6 Tryz.prog T80:=by
 refine a6.append ?_ e77
 intro e he
 simp only[List.mem_cons,List.not_mem_nil,or_false]at he
 rcases he with rfl|rfl|rfl|rfl|rfl|rfl|rfl|rfl|rfl|rfl|rfl
 ·exact aAG.ok
 ·exact aAF.ok
 ·exact aAE
 ·exact aAD
 ·exact aAC.ok
 ·exact aAB.ok
 ·exact aAA.ok
 ·exact aA9.ok
 ·exact aAI.ok
 ·exact aAH.ok
 ·exact m18.ok
theorem t80:bJ Tryz.prog (a9 T80):=aM e80
theorem a76 {l:Int} {n:Nat} (h:l-(n:Int)<0):szF l n= -1:=by unfold szF;rw[decide_eq_true h];rfl
theorem a77 {l:Int} {n:Nat} (h: ¬(l-(n:Int)<0)):szF l n=l-n:=by unfold szF;rw[decide_eq_false h];rfl
theorem a87 {n:Nat} (h: ¬(szF 1048576 n<0)):n≤1048576:=by
 by_cases c:(1048576:Int)-(n:Int)<0
 ·rw[a76 c]at h;omega
 ·omega
theorem a8H (k:Int) (a:List Int):(a73 k a).length=a.length:=(a7B k a).1
theorem a8G (k:Int) (a:List Bool):(a78 k a).length=a.length:=(a7A k a).1
theorem a9P (k l:Int) (a b:List Int) (c:List Bool):aD tt (a9 T80) ([]) 100 Tryz.f84 [.agg [.int .i64 k,.view none (.ints .i64 a) a.length 1 none,.view none (.ints .i64 b) b.length 1 none,.view none (.bools c) c.length 1 none],.c (.int .i64 l)] [] [(0,true)]=
  some ⟨.c (.int .i64 (-1)),[],(decide (a.length≤9223372036854775807)&&(decide (0≤l)&&(decide (l≤1048576)&&((decide (szF l a.length<0))&&true)))),[]⟩:=by kernel_rfl
theorem a9Q (k l:Int) (a b:List Int) (c:List Bool):aD tt (a9 T80) ([]) 100 Tryz.f84 [.agg [.int .i64 k,.view none (.ints .i64 a) a.length 1 none,.view none (.ints .i64 b) b.length 1 none,.view none (.bools c) c.length 1 none],.c (.int .i64 l)] [] [(0,false),(0,true)]=
  some ⟨.c (.int .i64 (-1)),[],(decide (a.length≤9223372036854775807)&&(decide (0≤l)&&(decide (l≤1048576)&&(!decide (szF l a.length<0)&&(decide (b.length≤9223372036854775807)&&(decide (0≤szF l a.length)&&(decide (szF l a.length≤1048576)&&((decide (szF (szF l a.length) b.length<0))&&true)))))))),[]⟩:=by kernel_rfl
theorem a9R (k l:Int) (a b:List Int) (c:List Bool):aD tt (a9 T80) ([]) 100 Tryz.f84 [.agg [.int .i64 k,.view none (.ints .i64 a) a.length 1 none,.view none (.ints .i64 b) b.length 1 none,.view none (.bools c) c.length 1 none],.c (.int .i64 l)] [] [(0,false),(0,false),(0,true)]=
  some ⟨.c (.int .i64 (-1)),[],(decide (a.length≤9223372036854775807)&&(decide (0≤l)&&(decide (l≤1048576)&&(!decide (szF l a.length<0)&&(decide (b.length≤9223372036854775807)&&(decide (0≤szF l a.length)&&(decide (szF l a.length≤1048576)&&(!decide (szF (szF l a.length) b.length<0)&&(decide (c.length≤9223372036854775807)&&(decide (0≤szF (szF l a.length) b.length)&&(decide (szF (szF l a.length) b.length≤1048576)&&((decide (szF (szF (szF l a.length) b.length) c.length<0))&&true)))))))))))),[]⟩:=by kernel_rfl
theorem a9S (k l:Int) (a b:List Int) (c:List Bool):aD tt (a9 T80) ([]) 100 Tryz.f84 [.agg [.int .i64 k,.view none (.ints .i64 a) a.length 1 none,.view none (.ints .i64 b) b.length 1 none,.view none (.bools c) c.length 1 none],.c (.int .i64 l)] [] [(0,false),(0,false),(0,false)]=
  some ⟨.c (.int .i64 (szF (szF (szF l a.length) b.length) c.length)),[],(decide (a.length≤9223372036854775807)&&(decide (0≤l)&&(decide (l≤1048576)&&(!decide (szF l a.length<0)&&(decide (b.length≤9223372036854775807)&&(decide (0≤szF l a.length)&&(decide (szF l a.length≤1048576)&&(!decide (szF (szF l a.length) b.length<0)&&(decide (c.length≤9223372036854775807)&&(decide (0≤szF (szF l a.length) b.length)&&(decide (szF (szF l a.length) b.length≤1048576)&&((!decide (szF (szF (szF l a.length) b.length) c.length<0))&&true)))))))))))),[]⟩:=by kernel_rfl
def a81:aN:=fun args h=>
 match args,h with
 |[.agg [.int .i64 k,.view _ (.ints .i64 a) n1 1 _,.view _ (.ints .i64 b) n2 1 _,.view _ (.bools c) n3 1 _],.c (.int .i64 l)],[]=>
  some (.c (.int .i64 (szF l (a.length+b.length+c.length))),[],[decide (a.length≤9223372036854775807),decide (b.length≤9223372036854775807),decide (c.length≤9223372036854775807),decide (0≤l),decide (l≤1048576)])
 |_,_=>none
theorem mZS:aT Tryz.prog 84 a81:=by
 intro args h res h' o hnorm he ho
 unfold a81 at he
 split at he
 case h_2=>cases he
 rename_i k nl1 a n1 cap1 nl2 b n2 cap2 nl3 c n3 cap3 l
 simp only[Option.some.injEq,Prod.mk.injEq]at he
 obtain⟨rfl,rfl,rfl⟩:=he
 simp only[List.mem_cons,List.not_mem_nil,or_false,forall_eq_or_imp,forall_eq,decide_eq_true_eq]at ho
 obtain⟨o1,o2,o3,o4,o5⟩:=ho
 simp only[bE,AV.norm,bF,aF.norm,Con.size,List.cons.injEq,AV.c.injEq,AV.agg.injEq,aF.view.injEq,aL,true_and,and_true]at hnorm
 obtain⟨⟨rfl,rfl,rfl⟩,⟨rfl,rfl,rfl⟩,rfl,rfl,rfl⟩:=hnorm
 by_cases h1:l-(a.length:Int)<0
 ·rw[a76 (n:=a.length+b.length+c.length) (by omega)]
  exact mo t80 (a9P k l a b c) (by simp[a76 h1,o1,o4,o5])
 ·by_cases h2:l-(a.length:Int)-(b.length:Int)<0
  ·rw[a76 (n:=a.length+b.length+c.length) (by omega)]
   exact mo t80 (a9Q k l a b c) (by simp[a77 h1,a76 h2,o1,o2,o4,o5];omega)
  ·by_cases h3:l-(a.length:Int)-(b.length:Int)-(c.length:Int)<0
   ·rw[a76 (n:=a.length+b.length+c.length) (by omega)]
    exact mo t80 (a9R k l a b c) (by simp[a77 h1,a77 h2,a76 h3,o1,o2,o3,o4,o5];omega)
   ·have e:=a9S k l a b c
    rw[a77 h1,a77 h2,a77 h3]at e
    rw[a77 (n:=a.length+b.length+c.length) (by omega),show l-((a.length+b.length+c.length:Nat):Int)=l-(a.length:Int)-(b.length:Int)-(c.length:Int)from by omega]
    exact mo t80 e (by simp[o1,o2,o3,o4,o5];omega)
theorem a9Y:aP Tryz.prog 90 (fJ tt (a9 T80) Tryz.f90 [(0,false)]):=dZ hT t80 bK _ (by kernel_rfl) (by kernel_rfl)
theorem aA0:aP Tryz.prog 94 (fJ tt (a9 T80) Tryz.f94 [(0,false),(0,false),(0,false)]):=dZ hT t80 bK _ (by kernel_rfl) (by kernel_rfl)
theorem aAK:aP Tryz.prog 92 (fJ tt (a9 T80) Tryz.f92 []):=dZ hT t80 bK _ (by kernel_rfl) (by kernel_rfl)
theorem aAM:aP Tryz.prog 87 (fJ tt (a9 T80) Tryz.f87 []):=dZ hT t80 bK _ (by kernel_rfl) (by kernel_rfl)
noncomputable def T81:List bD:=[⟨84,[],nm a81⟩,⟨90,[],fJ tt (a9 T80) Tryz.f90 [(0,false)]⟩,⟨94,[],fJ tt (a9 T80) Tryz.f94 [(0,false),(0,false),(0,false)]⟩,⟨92,[0],fJ tt (a9 T80) Tryz.f92 []⟩,⟨87,[],fJ tt (a9 T80) Tryz.f87 []⟩]++T80
theorem e81:a6 Tryz.prog T81:=by
 refine a6.append ?_ e80
 intro e he
 simp only[List.mem_cons,List.not_mem_nil,or_false]at he
 rcases he with rfl|rfl|rfl|rfl|rfl
 ·exact mZS.ok
 ·exact a9Y
 ·exact aA0
 ·exact aAK
 ·exact aAM
theorem t81:bJ Tryz.prog (a9 T81):=aM e81
theorem a9M (x:PK) (l:Int):aD tt (a9 T81) ([]) 100 Tryz.f26 [.agg x.vcells,.c (.int .i64 l)] [] [(0,true)]=
  some ⟨.c (.int .i64 (-1)),[],(decide (x.2.length≤9223372036854775807)&&(decide (x.3.length≤9223372036854775807)&&(decide (x.4.length≤9223372036854775807)&&(decide (0≤l)&&(decide (l≤1048576)&&((decide (szF l (x.2.length+x.3.length+x.4.length)<0))&&true)))))),[]⟩:=by kernel_rfl
theorem a9N (x:PK) (l:Int):aD tt (a9 T81) ([]) 100 Tryz.f26 [.agg x.vcells,.c (.int .i64 l)] [] [(0,false),(0,true)]=
  some ⟨.c (.int .i64 (-1)),[],(decide (x.2.length≤9223372036854775807)&&(decide (x.3.length≤9223372036854775807)&&(decide (x.4.length≤9223372036854775807)&&(decide (0≤l)&&(decide (l≤1048576)&&(!decide (szF l (x.2.length+x.3.length+x.4.length)<0)&&(decide (x.7.length≤9223372036854775807)&&(decide (0≤szF l (x.2.length+x.3.length+x.4.length))&&(decide (szF l (x.2.length+x.3.length+x.4.length)≤1048576)&&((decide (szF (szF l (x.2.length+x.3.length+x.4.length)) x.7.length<0))&&true)))))))))),[]⟩:=by kernel_rfl
theorem a9O (x:PK) (l:Int):aD tt (a9 T81) ([]) 100 Tryz.f26 [.agg x.vcells,.c (.int .i64 l)] [] [(0,false),(0,false)]=
  some ⟨.c (.int .i64 (szF (szF l (x.2.length+x.3.length+x.4.length)) x.7.length)),[],(decide (x.2.length≤9223372036854775807)&&(decide (x.3.length≤9223372036854775807)&&(decide (x.4.length≤9223372036854775807)&&(decide (0≤l)&&(decide (l≤1048576)&&(!decide (szF l (x.2.length+x.3.length+x.4.length)<0)&&(decide (x.7.length≤9223372036854775807)&&(decide (0≤szF l (x.2.length+x.3.length+x.4.length))&&(decide (szF l (x.2.length+x.3.length+x.4.length)≤1048576)&&((!decide (szF (szF l (x.2.length+x.3.length+x.4.length)) x.7.length<0))&&true)))))))))),[]⟩:=by kernel_rfl
def a80:aN:=fun args h=>
 match args,h with
 |[.agg [.int .i64 k,.view _ (.ints .i64 a) n1 1 _,.view _ (.ints .i64 b) n2 1 _,.view _ (.bools c) n3 1 _,.bool on,.int .i64 kd,.view _ (.ints .i64 d) n4 1 _,.int .i64 vs],.c (.int .i64 l)],[]=>
  some (.c (.int .i64 (szF l (a.length+b.length+c.length+d.length))),[],[decide (a.length≤9223372036854775807),decide (b.length≤9223372036854775807),decide (c.length≤9223372036854775807),decide (d.length≤9223372036854775807),decide (0≤l),decide (l≤1048576)])
 |_,_=>none
theorem mZK:aT Tryz.prog 26 a80:=by
 intro args h res h' o hnorm he ho
 unfold a80 at he
 split at he
 case h_2=>cases he
 rename_i k nl1 a n1 cap1 nl2 b n2 cap2 nl3 c n3 cap3 on kd nl4 d n4 cap4 vs l
 simp only[Option.some.injEq,Prod.mk.injEq]at he
 obtain⟨rfl,rfl,rfl⟩:=he
 simp only[List.mem_cons,List.not_mem_nil,or_false,forall_eq_or_imp,forall_eq,decide_eq_true_eq]at ho
 obtain⟨o1,o2,o3,o4,o5,o6⟩:=ho
 simp only[bE,AV.norm,bF,aF.norm,Con.size,List.cons.injEq,AV.c.injEq,AV.agg.injEq,aF.view.injEq,aL,true_and,and_true]at hnorm
 obtain⟨⟨rfl,rfl,rfl⟩,⟨rfl,rfl,rfl⟩,⟨rfl,rfl,rfl⟩,rfl,rfl,rfl⟩:=hnorm
 by_cases h1:l-((a.length+b.length+c.length:Nat):Int)<0
 ·rw[a76 (n:=a.length+b.length+c.length+d.length) (by omega)]
  exact mo t81 (a9M ⟨k,a,b,c,on,kd,d,vs⟩ l) (by simp[a76 h1,o1,o2,o3,o5,o6])
 ·by_cases h2:l-((a.length+b.length+c.length:Nat):Int)-(d.length:Int)<0
  ·rw[a76 (n:=a.length+b.length+c.length+d.length) (by omega)]
   exact mo t81 (a9N ⟨k,a,b,c,on,kd,d,vs⟩ l) (by simp only[a77 h1,a76 h2,o1,o2,o3,o4,o5,o6,decide_true];simp;omega)
  ·have e:=a9O ⟨k,a,b,c,on,kd,d,vs⟩ l
   simp only[a77 h1,a77 h2]at e
   rw[a77 (n:=a.length+b.length+c.length+d.length) (by omega),show l-((a.length+b.length+c.length+d.length:Nat):Int)=l-((a.length+b.length+c.length:Nat):Int)-(d.length:Int)from by omega]
   exact mo t81 e (by simp only[o1,o2,o3,o4,o5,o6,decide_true];simp;omega)
theorem a9X:aP Tryz.prog 30 (fJ tt (a9 T81) Tryz.f30 [(1,false),(0,false),(1,false)]):=dZ hT t81 bK _ (by kernel_rfl) (by kernel_rfl)
theorem a9Z:aP Tryz.prog 32 (fJ tt (a9 T81) Tryz.f32 [(0,false),(0,false)]):=dZ hT t81 bK _ (by kernel_rfl) (by kernel_rfl)
theorem aAJ:aP Tryz.prog 31 (fJ tt (a9 T81) Tryz.f31 []):=dZ hT t81 bK _ (by kernel_rfl) (by kernel_rfl)
theorem aAL:aP Tryz.prog 28 (fJ tt (a9 T81) Tryz.f28 []):=dZ hT t81 bK _ (by kernel_rfl) (by kernel_rfl)
noncomputable def T82:List bD:=[⟨26,[],nm a80⟩,⟨30,[],fJ tt (a9 T81) Tryz.f30 [(1,false),(0,false),(1,false)]⟩,⟨32,[],fJ tt (a9 T81) Tryz.f32 [(0,false),(0,false)]⟩,⟨31,[0],fJ tt (a9 T81) Tryz.f31 []⟩,⟨28,[],fJ tt (a9 T81) Tryz.f28 []⟩]++T81
theorem e82:a6 Tryz.prog T82:=by
 refine a6.append ?_ e81
 intro e he
 simp only[List.mem_cons,List.not_mem_nil,or_false]at he
 rcases he with rfl|rfl|rfl|rfl|rfl
 ·exact mZK.ok
 ·exact a9X
 ·exact a9Z
 ·exact aAJ
 ·exact aAL
end
section
noncomputable def a8J:List bD:=[⟨15,[],nm K6⟩,⟨43,[],nm K6⟩]++T82
theorem a9W:a6 Tryz.prog a8J:=by
 refine a6.append ?_ e82
 intro e he
 simp only[List.mem_cons,List.not_mem_nil,or_false]at he
 rcases he with rfl|rfl
 ·exact mKM.ok
 ·exact mKN.ok
theorem a9L:bJ Tryz.prog (a9 a8J):=aM a9W
def a7C (x:PK) (i:Int) (qz:Bool):Bool:=((decide (x.2.length≤9223372036854775807))&&((decide (x.3.length≤9223372036854775807))&&((decide (x.4.length≤9223372036854775807))&&((decide (x.7.length≤9223372036854775807))&&qz))))
def a7O (x:PK) (i:Int) (qz:Bool):Bool:=((!decide (szF 1048576 (x.2.length+x.3.length+x.4.length+x.7.length)<0))&&((decide (x.2.length≤274877906944)&&(decide (x.3.length≤274877906944)&&(decide (x.4.length≤274877906944)&&true))&&(decide (x.7.length≤274877906944)&&true))&&((decide (x.2.length=x.2.length))&&((decide (x.3.length=x.3.length))&&((decide (x.4.length=x.4.length))&&((decide (x.7.length=x.7.length))&&((decide (x.2.length≤274877906944))&&((decide (x.7.length≤274877906944))&&((decide (x.2.length≤274877906944)&&(decide (x.3.length≤274877906944)&&(decide (x.4.length≤274877906944)&&true))&&(decide (x.7.length≤274877906944)&&true))&&((decide (x.2.length=x.2.length))&&((decide (x.3.length=x.3.length))&&((decide (x.4.length=x.4.length))&&((decide (x.7.length=x.7.length))&&((decide (x.2.length≤274877906944))&&((decide (x.7.length≤274877906944))&&((decide ((eY x i).a.length=(eY x i).a.length))&&((decide ((eY x i).b.length=(eY x i).b.length))&&((decide ((eY x i).c.length=(eY x i).c.length))&&((decide ((eY x i).d.length=(eY x i).d.length))&&((decide ((eY x i).a.length=(eY x i).a.length))&&((decide ((eY x i).b.length=(eY x i).b.length))&&((decide ((eY x i).c.length=(eY x i).c.length))&&((decide ((eY x i).d.length=(eY x i).d.length))&&((!(eY x i).k !=(eY x i).k&&(decide ((eY x i).a.length≤274877906944)&&(decide ((eY x i).a=(eY x i).a)&&(decide ((eY x i).b.length≤274877906944)&&(decide ((eY x i).b=(eY x i).b)&&(decide ((eY x i).c.length≤274877906944)&&(decide ((eY x i).c=(eY x i).c)&&true))))))&&(!!(eY x i).on==(eY x i).on&&(!(eY x i).kd !=(eY x i).kd&&(decide ((eY x i).d.length≤274877906944)&&(decide ((eY x i).d=(eY x i).d)&&(!(eY x i).vs !=(eY x i).vs&&true))))))&&qz))))))))))))))))))))))))
def a7P (x:PK) (i:Int) (qz:Bool):Bool:=((!!nL x i==nL x i)&&((decide (x.2.length≤274877906944)&&(decide (x.3.length≤274877906944)&&(decide (x.4.length≤274877906944)&&true))&&(decide (x.7.length≤274877906944)&&true))&&((decide (x.2.length=x.2.length))&&((decide (x.3.length=x.3.length))&&((decide (x.4.length=x.4.length))&&((decide (x.7.length=x.7.length))&&((decide (x.2.length=x.2.length))&&((decide (x.3.length=x.3.length))&&((decide (x.4.length=x.4.length))&&((decide (x.7.length=x.7.length))&&((!x.1 !=x.1&&(decide (x.2.length≤274877906944)&&(decide (x.2=x.2)&&(decide (x.3.length≤274877906944)&&(decide (x.3=x.3)&&(decide (x.4.length≤274877906944)&&(decide (x.4=x.4)&&true))))))&&(!!x.5==x.5&&(!x.6 !=x.6&&(decide (x.7.length≤274877906944)&&(decide (x.7=x.7)&&(!x.8 !=x.8&&true))))))&&((decide (x.2.length≤274877906944)&&(decide (x.2.length=x.2.length)&&(decide (x.3.length≤274877906944)&&(decide (x.3.length=x.3.length)&&(decide (1+(↑x.2.length:Int)≤4611686018427387904)&&(decide (x.4.length≤274877906944)&&(decide (x.4.length=x.4.length)&&(decide (1+(↑x.2.length:Int)+(↑x.3.length:Int)≤4611686018427387904)&&true)))))))&&(decide (x.7.length≤274877906944)&&(decide (x.7.length=x.7.length)&&(decide (1+(↑x.2.length:Int)+(↑x.3.length:Int)+(↑x.4.length:Int)≤4611686018427387904)&&true))))&&((decide ((eY x i).a.length=(eY x i).a.length))&&((decide ((eY x i).b.length=(eY x i).b.length))&&((decide ((eY x i).c.length=(eY x i).c.length))&&((decide ((eY x i).d.length=(eY x i).d.length))&&((decide ((eY x i).a.length=(eY x i).a.length))&&((decide ((eY x i).b.length=(eY x i).b.length))&&((decide ((eY x i).c.length=(eY x i).c.length))&&((decide ((eY x i).d.length=(eY x i).d.length))&&((!(eY x i).k !=(eY x i).k&&(decide ((eY x i).a.length≤274877906944)&&(decide ((eY x i).a=(eY x i).a)&&(decide ((eY x i).b.length≤274877906944)&&(decide ((eY x i).b=(eY x i).b)&&(decide ((eY x i).c.length≤274877906944)&&(decide ((eY x i).c=(eY x i).c)&&true))))))&&(!!(eY x i).on==(eY x i).on&&(!(eY x i).kd !=(eY x i).kd&&(decide ((eY x i).d.length≤274877906944)&&(decide ((eY x i).d=(eY x i).d)&&(!(eY x i).vs !=(eY x i).vs&&true))))))&&((!!nL x i==nL x i)&&((decide ((eY x i).a.length≤274877906944)&&(decide ((eY x i).a.length=(eY x i).a.length)&&(decide ((eY x i).b.length≤274877906944)&&(decide ((eY x i).b.length=(eY x i).b.length)&&(decide (1+(↑(eY x i).a.length:Int)≤4611686018427387904)&&(decide ((eY x i).c.length≤274877906944)&&(decide ((eY x i).c.length=(eY x i).c.length)&&(decide (1+(↑(eY x i).a.length:Int)+(↑(eY x i).b.length:Int)≤4611686018427387904)&&true)))))))&&(decide ((eY x i).d.length≤274877906944)&&(decide ((eY x i).d.length=(eY x i).d.length)&&(decide (1+(↑(eY x i).a.length:Int)+(↑(eY x i).b.length:Int)+(↑(eY x i).c.length:Int)≤4611686018427387904)&&true))))&&((decide ((eY x i).a.length=(a73 1 (eY x i).a).length))&&((decide ((eY x i).b.length=(a73 (1+(↑(eY x i).a.length:Int)) (eY x i).b).length))&&((decide ((eY x i).c.length=(a78 (1+(↑(eY x i).a.length:Int)+(↑(eY x i).b.length:Int)) (eY x i).c).length))&&((decide ((eY x i).d.length=(a73 (1+(↑(eY x i).a.length:Int)+(↑(eY x i).b.length:Int)+(↑(eY x i).c.length:Int)) (eY x i).d).length))&&((decide ((a73 1 (eY x i).a).length≤274877906944)&&(hdI 1 (a73 1 (eY x i).a)&&(decide ((a73 (1+(↑(eY x i).a.length:Int)) (eY x i).b).length≤274877906944)&&(decide (1+(↑(a73 1 (eY x i).a).length:Int)≤4611686018427387904)&&(hdI (1+(↑(a73 1 (eY x i).a).length:Int)) (a73 (1+(↑(eY x i).a.length:Int)) (eY x i).b)&&(decide ((a78 (1+(↑(eY x i).a.length:Int)+(↑(eY x i).b.length:Int)) (eY x i).c).length≤274877906944)&&(decide (1+(↑(a73 1 (eY x i).a).length:Int)+(↑(a73 (1+(↑(eY x i).a.length:Int)) (eY x i).b).length:Int)≤4611686018427387904)&&(hdB (1+(↑(a73 1 (eY x i).a).length:Int)+(↑(a73 (1+(↑(eY x i).a.length:Int)) (eY x i).b).length:Int)) (a78 (1+(↑(eY x i).a.length:Int)+(↑(eY x i).b.length:Int)) (eY x i).c)&&true)))))))&&(decide ((a73 (1+(↑(eY x i).a.length:Int)+(↑(eY x i).b.length:Int)+(↑(eY x i).c.length:Int)) (eY x i).d).length≤274877906944)&&(decide (1+(↑(a73 1 (eY x i).a).length:Int)+(↑(a73 (1+(↑(eY x i).a.length:Int)) (eY x i).b).length:Int)+(↑(a78 (1+(↑(eY x i).a.length:Int)+(↑(eY x i).b.length:Int)) (eY x i).c).length:Int)≤4611686018427387904)&&(hdI (1+(↑(a73 1 (eY x i).a).length:Int)+(↑(a73 (1+(↑(eY x i).a.length:Int)) (eY x i).b).length:Int)+(↑(a78 (1+(↑(eY x i).a.length:Int)+(↑(eY x i).b.length:Int)) (eY x i).c).length:Int)) (a73 (1+(↑(eY x i).a.length:Int)+(↑(eY x i).b.length:Int)+(↑(eY x i).c.length:Int)) (eY x i).d)&&true))))&&qz))))))))))))))))))))))))))))
noncomputable abbrev a9T (x:PK) (i:Int) (p:i6):Option tZ:=aD tt (a9 a8J) ([]) 100 Tryz.f8 [.agg x.vcells,.c (.int .i64 i)] [] p
theorem a9U (x:PK) (i:Int):a9T x i [(0,true)]=
  some ⟨.c (.bool true),[],(a7C x i ((decide (szF 1048576 (x.2.length+x.3.length+x.4.length+x.7.length)<0))&&true)),[]⟩:=by kernel_rfl
theorem a9V (x:PK) (i:Int):a9T x i [(0,false),(1,false),(3,false),(1,false),(1,false),(1,false)]=
  some ⟨.c (.bool true),[],(a7C x i (a7O x i (a7P x i ((!1+(↑(a73 1 (eY x i).a).length:Int)+(↑(a73 (1+(↑(eY x i).a.length:Int)) (eY x i).b).length:Int)+(↑(a78 (1+(↑(eY x i).a.length:Int)+(↑(eY x i).b.length:Int)) (eY x i).c).length:Int)+(↑(a73 (1+(↑(eY x i).a.length:Int)+(↑(eY x i).b.length:Int)+(↑(eY x i).c.length:Int)) (eY x i).d).length:Int)!=1+(↑(eY x i).a.length:Int)+(↑(eY x i).b.length:Int)+(↑(eY x i).c.length:Int)+(↑(eY x i).d.length:Int))&&((decide (x.2.length≤274877906944)&&(decide (x.3.length≤274877906944)&&(decide (x.4.length≤274877906944)&&true))&&(decide (x.7.length≤274877906944)&&true))&&(decide (x.2.length=x.2.length)&&(decide (x.3.length=x.3.length)&&(decide (x.4.length=x.4.length)&&(decide (x.7.length=x.7.length)&&(decide (x.2.length≤274877906944)&&(decide (x.7.length≤274877906944)&&(decide ((eY x i).a.length=(eY x i).a.length)&&(decide ((eY x i).b.length=(eY x i).b.length)&&(decide ((eY x i).c.length=(eY x i).c.length)&&(decide ((eY x i).d.length=(eY x i).d.length)&&(decide ((eY x i).a.length=(eY x i).a.length)&&(decide ((eY x i).b.length=(eY x i).b.length)&&(decide ((eY x i).c.length=(eY x i).c.length)&&(decide ((eY x i).d.length=(eY x i).d.length)&&((!(eY x i).k !=(eY x i).k&&(decide ((eY x i).a.length≤274877906944)&&(decide ((eY x i).a=(eY x i).a)&&(decide ((eY x i).b.length≤274877906944)&&(decide ((eY x i).b=(eY x i).b)&&(decide ((eY x i).c.length≤274877906944)&&(decide ((eY x i).c=(eY x i).c)&&true))))))&&(!!(eY x i).on==(eY x i).on&&(!(eY x i).kd !=(eY x i).kd&&(decide ((eY x i).d.length≤274877906944)&&(decide ((eY x i).d=(eY x i).d)&&(!(eY x i).vs !=(eY x i).vs&&true))))))&&((!!nL x i==nL x i)&&(decide ((eY x i).a.length=(a73 1 (eY x i).a).length)&&(decide ((eY x i).b.length=(a73 (1+(↑(eY x i).a.length:Int)) (eY x i).b).length)&&(decide ((eY x i).c.length=(a78 (1+(↑(eY x i).a.length:Int)+(↑(eY x i).b.length:Int)) (eY x i).c).length)&&(decide ((eY x i).d.length=(a73 (1+(↑(eY x i).a.length:Int)+(↑(eY x i).b.length:Int)+(↑(eY x i).c.length:Int)) (eY x i).d).length)&&((decide ((a73 1 (eY x i).a).length≤274877906944)&&(hdI 1 (a73 1 (eY x i).a)&&(decide ((a73 (1+(↑(eY x i).a.length:Int)) (eY x i).b).length≤274877906944)&&(decide (1+(↑(a73 1 (eY x i).a).length:Int)≤4611686018427387904)&&(hdI (1+(↑(a73 1 (eY x i).a).length:Int)) (a73 (1+(↑(eY x i).a.length:Int)) (eY x i).b)&&(decide ((a78 (1+(↑(eY x i).a.length:Int)+(↑(eY x i).b.length:Int)) (eY x i).c).length≤274877906944)&&(decide (1+(↑(a73 1 (eY x i).a).length:Int)+(↑(a73 (1+(↑(eY x i).a.length:Int)) (eY x i).b).length:Int)≤4611686018427387904)&&(hdB (1+(↑(a73 1 (eY x i).a).length:Int)+(↑(a73 (1+(↑(eY x i).a.length:Int)) (eY x i).b).length:Int)) (a78 (1+(↑(eY x i).a.length:Int)+(↑(eY x i).b.length:Int)) (eY x i).c)&&true)))))))&&(decide ((a73 (1+(↑(eY x i).a.length:Int)+(↑(eY x i).b.length:Int)+(↑(eY x i).c.length:Int)) (eY x i).d).length≤274877906944)&&(decide (1+(↑(a73 1 (eY x i).a).length:Int)+(↑(a73 (1+(↑(eY x i).a.length:Int)) (eY x i).b).length:Int)+(↑(a78 (1+(↑(eY x i).a.length:Int)+(↑(eY x i).b.length:Int)) (eY x i).c).length:Int)≤4611686018427387904)&&(hdI (1+(↑(a73 1 (eY x i).a).length:Int)+(↑(a73 (1+(↑(eY x i).a.length:Int)) (eY x i).b).length:Int)+(↑(a78 (1+(↑(eY x i).a.length:Int)+(↑(eY x i).b.length:Int)) (eY x i).c).length:Int)) (a73 (1+(↑(eY x i).a.length:Int)+(↑(eY x i).b.length:Int)+(↑(eY x i).c.length:Int)) (eY x i).d)&&true))))&&((!1+(↑(a73 1 (eY x i).a).length:Int)+(↑(a73 (1+(↑(eY x i).a.length:Int)) (eY x i).b).length:Int)+(↑(a78 (1+(↑(eY x i).a.length:Int)+(↑(eY x i).b.length:Int)) (eY x i).c).length:Int)+(↑(a73 (1+(↑(eY x i).a.length:Int)+(↑(eY x i).b.length:Int)+(↑(eY x i).c.length:Int)) (eY x i).d).length:Int)!=1+(↑(eY x i).a.length:Int)+(↑(eY x i).b.length:Int)+(↑(eY x i).c.length:Int)+(↑(eY x i).d.length:Int))&&true))))))))))))))))))))))))))),[]⟩:=by kernel_rfl
theorem a9J (x:PK) (i:Int) (o1:x.a.length≤9223372036854775807) (o2:x.b.length≤9223372036854775807) (o3:x.c.length≤9223372036854775807) (o4:x.d.length≤9223372036854775807):bA Tryz.prog 8 [.agg x.vcells,.c (.int .i64 i)] [] (.c (.bool true)) []:=by
 have p1:decide (x.2.length≤9223372036854775807)=true:=decide_eq_true o1
 have p2:decide (x.3.length≤9223372036854775807)=true:=decide_eq_true o2
 have p3:decide (x.4.length≤9223372036854775807)=true:=decide_eq_true o3
 have p4:decide (x.7.length≤9223372036854775807)=true:=decide_eq_true o4
 cases c:decide (szF 1048576 (x.2.length+x.3.length+x.4.length+x.7.length)<0)with
 |true=>exact mo a9L (a9U x i) (by simp only[a7C,a7O,a7P,p1,p2,p3,p4,c,bS,rpS])
 |false=>
  have hz:=a87 (of_decide_eq_false c)
  have a1:decide (x.2.length≤274877906944)=true:=decide_eq_true (by omega)
  have a2:decide (x.3.length≤274877906944)=true:=decide_eq_true (by omega)
  have a3:decide (x.4.length≤274877906944)=true:=decide_eq_true (by omega)
  have a4:decide (x.7.length≤274877906944)=true:=decide_eq_true (by omega)
  obtain⟨g1,g2,g3,g4⟩:=XF x i
  have b1:decide ((eY x i).a.length≤274877906944)=true:=decide_eq_true (by omega)
  have b2:decide ((eY x i).b.length≤274877906944)=true:=decide_eq_true (by omega)
  have b3:decide ((eY x i).c.length≤274877906944)=true:=decide_eq_true (by omega)
  have b4:decide ((eY x i).d.length≤274877906944)=true:=decide_eq_true (by omega)
  exact mo a9L (a9V x i) (by
   simp only[a7C,a7O,a7P,p1,p2,p3,p4,a1,a2,a3,a4,b1,b2,b3,b4,c,a8H,a8G,a8L,a8K,bne_self_eq_false,beq_self_eq_true,decide_true,bS,rpS]
   omega)
end
end Go.Proofs.YthapjdpkelihiaaGreat.Am
