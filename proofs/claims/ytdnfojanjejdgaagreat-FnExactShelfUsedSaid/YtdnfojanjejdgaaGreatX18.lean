/- DERIVED. Part 18 of the proof: Am43, B1, C110, C111, C112, C113, C114, C115, C116, P30, P12, C117. No statement of the program is proved here. -/
import Derived.Test.YtdnfojanjejdgaaGreatX17
import Derived.RangeFuncWrites
import Derived.RangeFuncBox
import Derived.Shelf.Abstract
import Derived.OwnWalkIn
import Derived.TacticsInMore
import Derived.LoopIn
set_option linter.unusedSimpArgs false
set_option linter.unusedVariables false
set_option linter.unusedSectionVars false
namespace Go.Proofs.YtdnfojanjejdgaaGreat.Am
section
variable {X : Nat → Prop}
theorem aK.blk {ro:Option Nat} {P:Program} {m id:Nat} {c b:Code} {x:LC} {lc:List (Nat×LC)} (hb:oH id c=[b]) (g:aN ro P m (.block id b) x.pre fun e s=>e=x.ex∧s=x.post) (r:aK ro P m lc c):
  aK ro P m ((id,x)::lc) c:=by
 intro q hq y hy
 simp only[sQ]at hy
 split at hy
 ·rename_i e
  injection hy with hy;subst hy
  have hm:q.2∈oH id c:=List.mem_map.2 ⟨q,List.mem_filter.2 ⟨hq,by simp[e]⟩,rfl⟩
  rw[hb,List.mem_singleton]at hm
  rw[hm,←e];exact g
 ·exact r q hq y hy
theorem MJ {ro:Option Nat} {P:Program} {tt:Tab} (hT:iC P tt) {ct:CT} (hct:bK P ct) (bF:P.follows .mixedOrders=true) {m n:Nat} {c:Code} {s t:St} {p:gC} {live liveX:List Nat} {lc:List (Nat×LC)} {e:Ex} {b:Bool} {q:List Prop}
  (h:aC m live liveX (aD tt ct lc m n c s p)=some (e,b,q,t)) (hb:b=true) (hq: ∀x∈q,x) (hlc:aK ro P m lc c):aN ro P m c s fun e' t'=>e'=e∧t'=t:=by
 unfold aC at h
 obtain⟨o,ho,h⟩:=Option.map_eq_some_iff.1 h
 simp only[Prod.mk.injEq]at h
 obtain⟨h1,h2,h3,h4⟩:=h
 rw[hb]at h2
 refine((k7 hT hct bF n ho (kR h2) (by rw[h3];exact hq) hlc).1).weaken fun e' t' ⟨g1,g2⟩=>⟨_,f8.fit m (bif t4 o.ex then live else liveX) t',by rw[g1,h1],by rw[g2];exact h4⟩
section
variable {w w' : World} (hc : ∀ a v, w.cell? a = some v → w'.cell? a = some v) (hs : ∀ b x, w.shape? b = some x → w'.shape? b = some x)
include hc hs
theorem CR0.keepC {L:Nat→Prop} {ρ:Rho} {c:aF} {v:Value} (h:CR0 w L ρ c v):CR0 w' L ρ c v:=by
 induction h with
 |any v h=>exact .any v h
 |int k n=>exact .int k n
 |bool b=>exact .bool b
 |str s=>exact .str s
 |nilp=>exact .nilp
 |nils=>exact .nils
 |nilf=>exact .nilf
 |ptrDead id i es j v hd h=>exact .ptrDead id i es j v hd h
 |ptr id i es j b hb=>exact .ptr id i es j b hb
 |slDead id o len es cap v hd h=>exact .slDead id o len es cap v hd h
 |sl id o len es cap b c ty n hb hs' hn hl hc=>exact .sl id o len es cap b c ty n hb (hs _ _ hs') hn hl hc
 |slNone id o es cap a h1 hc=>exact .slNone id o es cap a h1 hc
 |vptr c i es j b base u hl hc' hu ih=>exact .vptr c i es j b base u hl (fun q hq=>hc _ _ (hc' q hq)) ih
 |view nl c len es cap b base k u hl hc' hu hz hk hcap hnl ih=>exact .view nl c len es cap b base k u hl (fun q hq=>hc _ _ (hc' q hq)) ih hz hk hcap hnl
 |viewNone nl c es cap a k hz hcap hnl hk=>exact .viewNone nl c es cap a k hz hcap hnl hk
 |fn f caps vs hs h ih=>exact .fn f caps vs hs ih
theorem AVR.keepC {ρ:Rho} {x:AV} {v:Value} (h:AVR X w ρ x v):AVR X w' ρ x v:=by
 induction h with
 |any v=>exact .any v
 |c x v h=>exact .c x v (CR0.keepC hc hs h)
 |agg cs vs hs' h=>exact .agg cs vs hs' fun i hi=>CR0.keepC hc hs (h i hi)
 |tup l vs hs' h ih=>exact .tup l vs hs' ih
end
theorem Mem.grown {w0 w w':World} {M:Nat→Prop} {h:List aU} {ρ:Rho} (m:Mem X w0 M h ρ w) {row:Option Nat} (hg:w.grownBy w' row)
  (hr: ∀r,row=some r→w0.heap.size≤r∧ ∃o:Obj,w.heap[r]? =some o∧o.isCells=false):
  Mem X w0 M h ρ w'∧(∀a v,w.cell? a=some v→w'.cell? a=some v)∧(∀b x,w.shape? b=some x→w'.shape? b=some x):=by
 have hc: ∀a v,w.cell? a=some v→w'.cell? a=some v:=fun a v h=>cell_kept h hg fun r e=>(hr r e).2
 have hs: ∀b x,w.shape? b=some x→w'.shape? b=some x:=fun b x h=>by
  unfold World.shape? at h
  split at h
  ·rename_i cs el mk hb
   have:=grownBy_keeps_cells hg (fun r e=>(hr r e).2) hb rfl
   unfold World.shape?;rw[this,hb];exact h
  ·cases h
 refine⟨⟨fun id=> ?_,m.inj,m.own,hg.os.trans m.os,hg.tape.trans m.tape,hg.output.trans m.output,Nat.le_trans m.size hg.size,fun k hk hM=> ?_,m.foreign⟩,hc,hs⟩
 ·have hs':=m.slot id
  cases hg':Heap.get h id<;>cases hr':ρ id<;>rw[hg',hr']at hs'<;>try exact hs'
  obtain⟨cs,ty,e,h1,h2⟩:=hs'
  exact⟨cs,ty,(grownBy_keeps_cells hg (fun r e=>(hr r e).2) e rfl).trans e,h1,fun q hq=>CR0.keepC hc hs (h2 q hq)⟩
 ·rw[hg.block k (Nat.lt_of_lt_of_le hk m.size) (fun e=>by have:=(hr k e.symm).1;omega)];exact m.keep k hk hM
theorem AVR.monoB {w w':World} {ρ ρ':Rho} (m:cX w (b9 ρ) w' (b9 ρ')) (im:cA ρ ρ') {x:AV} {v:Value} (h:AVR X w ρ x v):AVR X w' ρ' x v:=by
 induction h with
 |any v=>exact .any v
 |c x v h=>exact .c x v (CR0.mono (m.or X) h im)
 |agg cs vs hs h=>exact .agg cs vs hs fun i hi=>CR0.mono (m.or X) (h i hi) im
 |tup l vs hs h ih=>exact .tup l vs hs ih
theorem Mem.outer {w0 w w':World} {M:Nat→Prop} {h h':List aU} {ρ ρ':Rho} (m:Mem X w0 M h ρ w) (m':Mem X w (b9 ρ) h' ρ' w'):Mem X w0 M h' ρ' w':=by
 refine⟨m'.slot,m'.inj,fun id b hb=> ?_,m'.os.trans m.os,m'.tape.trans m.tape,m'.output.trans m.output,Nat.le_trans m.size m'.size,fun k hk hM=> ?_,m.foreign⟩
 ·rcases m'.own id b hb with h|⟨j,hj⟩
  ·exact .inl (Nat.le_trans m.size h)
  ·exact m.own j b hj
 ·rw[m'.keep k (Nat.lt_of_lt_of_le hk m.size) (fun⟨j,hj⟩=> ?_)]
  ·exact m.keep k hk hM
  ·rcases m.own j k hj with h|h
   ·omega
   ·exact hM h
theorem Mem.noRow {w0 w:World} {M:Nat→Prop} {h:List aU} {ρ:Rho} (m:Mem X w0 M h ρ w) {D:Nat} {o:Obj} (hd:w.heap[D]? =some o) (ho:o.isCells=false): ¬b9 ρ D:=fun⟨id,hid⟩=>by
 have hs:=m.slot id
 rw[hid]at hs
 cases hg:Heap.get h id<;>rw[hg]at hs
 case live c=>
  obtain⟨cs,ty,e,_⟩:=hs
  rw[hd]at e;cases e;cases ho
 all_goals exact hs
theorem UB {ro:Option Nat} {P:Program} {c:Code} {Q:Exit→Act→World→Prop} {a:Act} {w:World} {n n':Nat} (h:c.wpIn (FW ro) n P Q a w):c.wpIn (FW ro) n' P Q a w:=
 fun b k cs h1 h2 _=>h b k cs h1 h2 (fun _ h=>by cases h)
theorem Rel.remap0 {w0 w:World} {ρ0 ρ:Rho} {s:St} {a:Act} (r:Rel X w0 ρ0 s ρ a w) (h0: ∀k,ρ0 k=.unborn) {live order:List Nat} (hn:cT order=true):Rel X w0 ρ0 (Am.remap live order s) (cB s.heap order ρ) a w:=by
 refine⟨by simp[Am.remap,fA,r.size],fun t ht=> ?_,r.mem.ren hn,r.defers,r.mono.trans ⟨fun _ _ _=>rfl,fun _ _=>rfl,Nat.le_refl _,fun b hb=> .inl (dC _ _ _ b hb)⟩,⟨fun id h=> ?_,fun id h=> ?_,fun id b h=> ?_⟩⟩
 ·simp only[Am.remap,fA]at ht⊢
  rw[mB _ _ _ _ _ ht]
  cases live.elem (0+t)with
  |false=>exact .any _
  |true=>exact(r.tmps t ht).ren (dC _ _ _) (eF _ _ _)
 all_goals (rw[h0 id]at h;cases h)
theorem AQ {w:World} {ρ:Rho} {c:Con} {x:Wh} (h:eN X w ρ (.live c) x) (hc:0<c.size): ∃b,x=.row b∧EN X w ρ c b:=by
 cases x with
 |row b=>exact⟨b,rfl,h⟩
 |nil=>have:c.size=0:=h;omega
 |unborn=>exact h.elim
 |dead=>exact h.elim
theorem AK {w:World} {ρ:Rho} {c:Con} {b q:Nat} (h:EN X w ρ c b) (hq:q<c.size): ∃v,w.cell? ⟨b,q,none⟩=some v∧CR X w ρ (c.cell q) v:=by
 obtain⟨cs,ty,e,h1,h2⟩:=h
 have hl:q<cs.size:=by omega
 refine⟨cs.getD q undef, ?_,h2 q hq⟩
 unfold World.cell?
 simp[e,Array.getD,hl]
theorem EF {w:World} {ρ:Rho} {id b:Nat} {v:Value} (h:CR X w ρ (.ptr id 0 0 0) v) (hb:ρ id=.row b):v=.pointer (some ⟨b,0,none⟩):=by
 cases h with
 |ptrDead _ _ _ _ _ hd _=>rw[hb]at hd;cases hd
 |ptr _ _ _ _ b' hb'=>rw[hb]at hb';cases hb';rfl
theorem Mem.base {w0 w:World} {M:Nat→Prop} {h:List aU} {ρ:Rho} (m:Mem X w0 M h ρ w):Mem X w (b9 ρ) h ρ w:=
 ⟨m.slot,m.inj,fun id b hb=> .inr ⟨id,hb⟩,rfl,rfl,rfl,Nat.le_refl _,fun _ _ _=>rfl,fun b hx=>⟨Nat.lt_of_lt_of_le (m.foreign b hx).1 m.size,fun⟨id,hid⟩=>m.notX hid hx⟩⟩
theorem cX.grown {w W W':World} {L L':Nat→Prop} (m:cX w L W L') {row:Option Nat} (hg:W.grownBy W' row) (hr: ∀r,row=some r→w.heap.size≤r):cX w L W' L':=by
 have hb: ∀b,b<w.heap.size→W'.heap[b]? =W.heap[b]? :=fun b hb=>hg.block b (Nat.lt_of_lt_of_le hb m.size) fun e=>by have:=hr b e.symm;omega
 refine⟨fun b h hL=>(hb b h).trans (m.keep b h hL),fun b h=> ?_,Nat.le_trans m.size hg.size,m.fresh⟩
 rw[←m.shape b h];unfold World.shape?;rw[hb b h]
theorem tP {d:AV}: ∀ {l:List (Nat×AV)} {ts:List AV} {t:Nat},t∉l.map (·.1)→(y8 l ts).getD t d=ts.getD t d
 |[],ts,t,_=>rfl
 |(i,v)::r,ts,t,h=>by
  simp only[List.map_cons,List.mem_cons,not_or]at h
  simp only[y8]
  rw[tP h.2,List.getD_eq_getElem?_getD,List.getElem?_set_ne (fun e=>h.1 e.symm),←List.getD_eq_getElem?_getD]
theorem KS {n t:Nat} {l:List (Nat×AV)} {h:List aU} {d:AV} (ht:t<n) (hn:t∉l.map (·.1)):(aR n l h).tmps.getD t d=.any:=by
 unfold aR
 dsimp only
 rw[tP hn,List.getD_eq_getElem?_getD,List.getElem?_replicate,if_pos ht];rfl
def nO:Code→Option Code
 |.rangeFunc _ _ a _=>some a
 |.seq a b=>match nO a with|some c=>some c|none=>nO b
 |.cond _ a b=>match nO a with|some c=>some c|none=>nO b
 |.block _ c=>nO c
 |.loop c=>nO c
 |_=>none
def QM (c:Code) (d s:Nat):Bool:=
 match c with
 |.region _ ops false=>(match ops.toList with
  |[o]=>(match o.dst with|some x=>x==d|none=>false)&&((match o.op with|.assign (.tmp t)=>t==s|_=>false)&&(match o.guard with|none=>true|_=>false))
  |_=>false)
 |_=>false
theorem L3 {F:Fence} {n:Nat} {P:Program} {c:Code} {d s:Nat} (hb:QM c d s=true) {K:Act→World→Prop} {Q:Exit→Act→World→Prop} {a:Act} {w:World} (h:K (a.put (some d) (a.eval (.tmp s))) w):c.wpIn F n P (Exit.then K Q) a w:=by
 unfold QM at hb
 split at hb
 ·rename_i id ops
  split at hb
  ·rename_i o ho
   obtain⟨l⟩:=ops
   simp only at ho
   subst ho
   obtain⟨dst,op,ty,pos,after,guard⟩:=o
   simp only[Bool.and_eq_true,rpS]at hb
   obtain⟨b1,b2,b3⟩:=hb
   split at b1<;>simp at b1
   subst b1
   split at b2<;>simp at b2
   subst b2
   split at b3<;>simp at b3
   refine wpIn_region ?_
   simp only[List.size_toArray,List.length_cons,List.length_nil,List.range,List.range.loop,wpOpsIn,Oper.wpIn,Region.wanted,List.getElem?_toArray,List.getElem?_cons_zero,if_true]
   rw[Oper.semAt_eq _ _ _ (by simp)]
   exact⟨fun f hf=>by simp[Oper.about]at hf,h⟩
  ·cases hb
 ·cases hb
def gN:Code→Option Code
 |.rangeFunc _ _ _ b=>some b
 |.seq a b=>match gN a with|some c=>some c|none=>gN b
 |.cond _ a b=>match gN a with|some c=>some c|none=>gN b
 |.block _ c=>gN c
 |.loop c=>gN c
 |_=>none
end
section
variable {ct : CT} {fuel : Nat} {f : FuncId} {fn : Func} {args : List AV} {h : List aU} {p : gC} {o : rX}
theorem cF (hct:bK Tryz.prog ct) (he:aE tt ct [] fuel fn args h p=some o) (hf:Tryz.prog.funcs[f]? =some fn) (hnm:(fn.name== "runtime.NumGoroutine")=false)
  (hq:o.eqs=[]) (ho:o.obl=true):bE Tryz.prog f args h o.res o.heap:=c8 hct hf hnm he ho (by rw[hq];simp) fun _ _=>aK.nil
abbrev HF (m:Nat) (fn:Func) (b:Nat×LC):Prop:=aN none Tryz.prog m (.block b.1 (.loop (a5 b.1 (a0 fn)))) b.2.pre fun e s=>e=b.2.ex∧s=b.2.post
theorem P9 {m:Nat} {fn:Func}: ∀ {l:List (Nat×LC)},(∀b∈l,t0 b.1 (a0 fn)=true∧HF m fn b)→ ∀c,fn.body=some c→aK none Tryz.prog m l c
 |[],_,c,_=>aK.nil
 |b::l,h,c,hc=>by
  obtain⟨h1,h2⟩:=h b List.mem_cons_self
  have e:a0 fn=c:=by unfold a0;rw[hc]
  unfold HF at h2
  rw[e]at h1 h2
  exact aK.cons h1 h2 (P9 (fun x hx=>h x (List.mem_cons_of_mem _ hx)) c hc)
theorem bQ (hct:bK Tryz.prog ct) {b:Nat×LC} (he:aE tt ct [b] fuel fn args h p=some o) (hf:Tryz.prog.funcs[f]? =some fn) (hnm:(fn.name== "runtime.NumGoroutine")=false)
  (hl:t0 b.1 (a0 fn)=true) (g:HF h.length fn b) (hq: ∀q∈o.eqs,q) (ho:o.obl=true):bE Tryz.prog f args h o.res o.heap:=
 c8 hct hf hnm he ho hq (P9 fun x hx=>by rw[List.mem_singleton]at hx;subst hx;exact⟨hl,g⟩)
end
section
def chA (s:ByteArray) (i:Nat):Int:=((s.data.getD i 0).toNat:Int)
def ltB (s:ByteArray) (i:Nat):Bool:= !(decide (chA s i<97))&& !(decide (chA s i>122))
def eA (s:ByteArray):Bool:=cH (ltB s) s.size 0&&bet (s.size:Int) 1 14
theorem QR (s:ByteArray) (i:Nat):0≤chA s i∧chA s i<256:=by
 have:=(s.data.getD i 0).toNat_lt
 unfold chA;omega
theorem y4 (s:ByteArray) (i:Nat):ltB s i=true↔97≤chA s i∧chA s i≤122:=by
 simp only[ltB,Bool.and_eq_true,rpS,Bool.not_eq_true',decide_eq_false_iff_not];omega
noncomputable abbrev fTO:=Tryz.f96
noncomputable def ITO (s:ByteArray) (i:Int):St:=aR fTO.ntmps [(0,.c (.str s)),(5,.c (.int .i64 (s.size:Int))),(6,.c (.int .i64 i))] []
noncomputable def XTO (s:ByteArray):St:=aR fTO.ntmps [(0,.c (.str s))] []
noncomputable def YTO (s:ByteArray):St:=aR fTO.ntmps [(0,.c (.str s)),(2,.c (.bool false))] []
theorem a1B (s:ByteArray) (i:Int):aC 0 (a6 fTO 0) (a8 fTO 0) (aD tt (a9 T82) ([]) 0 100 (a5 0 (a0 fTO)) (ITO s i) [(0,true),(0,true)])=
  some (.ret,(decide (i<(↑s.size:Int))&&(decide (0≤i)&&(decide (i<(↑s.size:Int))&&(rp4 (decide ((↑(s.data.getD i.toNat 0).toNat:Int)<97)) ((decide ((↑(s.data.getD i.toNat 0).toNat:Int)<97))&&true))))),[],YTO s):=by kernel_rfl
theorem a1C (s:ByteArray) (i:Int):aC 0 (a6 fTO 0) (a8 fTO 0) (aD tt (a9 T82) ([]) 0 100 (a5 0 (a0 fTO)) (ITO s i) [(0,true),(0,false),(0,true)])=
  some (.ret,(decide (i<(↑s.size:Int))&&(decide (0≤i)&&(decide (i<(↑s.size:Int))&&(rp3 (!decide ((↑(s.data.getD i.toNat 0).toNat:Int)<97)) (decide (0≤i)&&(decide (i<(↑s.size:Int))&&(!decide ((↑(s.data.getD i.toNat 0).toNat:Int)<97)&&((bif decide ((↑(s.data.getD i.toNat 0).toNat:Int)<97)then true else decide ((↑(s.data.getD i.toNat 0).toNat:Int)>122))&&true)))))))),[],YTO s):=by kernel_rfl
theorem a1D (s:ByteArray) (i:Int):aC 0 (a6 fTO 0) (a8 fTO 0) (aD tt (a9 T82) ([]) 0 100 (a5 0 (a0 fTO)) (ITO s i) [(0,true),(0,false),(0,false)])=
  some (.normal,(decide (i<(↑s.size:Int))&&(decide (0≤i)&&(decide (i<(↑s.size:Int))&&(rp3 (!decide ((↑(s.data.getD i.toNat 0).toNat:Int)<97)) (decide (0≤i)&&(decide (i<(↑s.size:Int))&&(!decide ((↑(s.data.getD i.toNat 0).toNat:Int)<97)&&((!bif decide ((↑(s.data.getD i.toNat 0).toNat:Int)<97)then true else decide ((↑(s.data.getD i.toNat 0).toNat:Int)>122))&&true)))))))),[],ITO s (IntKind.i64.wrap (i+1))):=by kernel_rfl
theorem a1E (s:ByteArray) (i:Int):aC 0 (a6 fTO 0) (a8 fTO 0) (aD tt (a9 T82) ([]) 0 100 (a5 0 (a0 fTO)) (ITO s i) [(0,false)])=
  some (.exit 0,((!decide (i<(↑s.size:Int)))&&true),[],XTO s):=by kernel_rfl
noncomputable abbrev fTP:=Tryz.f94
noncomputable def ITP (s:ByteArray) (i:Int):St:=aR fTP.ntmps [(0,.c (.str s)),(3,.c (.int .i64 i))] []
noncomputable def XTP (s:ByteArray):St:=aR fTP.ntmps [(0,.c (.str s))] []
noncomputable def YTP (s:ByteArray):St:=aR fTP.ntmps [(0,.c (.str s)),(2,.c (.bool false))] []
theorem a1F (s:ByteArray) (i:Int):aC 0 (a6 fTP 0) (a8 fTP 0) (aD tt (a9 T82) ([]) 0 100 (a5 0 (a0 fTP)) (ITP s i) [(0,true),(0,true)])=
  some (.ret,(decide (i<(↑s.size:Int))&&(decide (0≤i)&&(decide (i<(↑s.size:Int))&&((!bet (IntKind.i64.wrap (↑(s.data.getD i.toNat 0).toNat:Int)) 97 122)&&true)))),[],YTP s):=by kernel_rfl
theorem a1G (s:ByteArray) (i:Int):aC 0 (a6 fTP 0) (a8 fTP 0) (aD tt (a9 T82) ([]) 0 100 (a5 0 (a0 fTP)) (ITP s i) [(0,true),(0,false)])=
  some (.normal,(decide (i<(↑s.size:Int))&&(decide (0≤i)&&(decide (i<(↑s.size:Int))&&((!!bet (IntKind.i64.wrap (↑(s.data.getD i.toNat 0).toNat:Int)) 97 122)&&true)))),[],ITP s (IntKind.i64.wrap (i+1))):=by kernel_rfl
theorem a1H (s:ByteArray) (i:Int):aC 0 (a6 fTP 0) (a8 fTP 0) (aD tt (a9 T82) ([]) 0 100 (a5 0 (a0 fTP)) (ITP s i) [(0,false)])=
  some (.exit 0,((!decide (i<(↑s.size:Int)))&&true),[],XTP s):=by kernel_rfl
theorem a4Z (s:ByteArray):aE tt (a9 T82) ([(0,⟨a6 fTO 0,ITO s 0,.normal,XTO s⟩)]) 100 fTO [.c (.str s)] [] []=
  some ⟨.c (.bool (bet (↑s.size:Int) 1 14)),[],true,[ITO s 0=ITO s 0]⟩:=by kernel_rfl
theorem a5E (s:ByteArray):aE tt (a9 T82) ([(0,⟨a6 fTO 0,ITO s 0,.ret,YTO s⟩)]) 100 fTO [.c (.str s)] [] []=
  some ⟨.c (.bool false),[],true,[ITO s 0=ITO s 0]⟩:=by kernel_rfl
theorem a50 (s:ByteArray):aE tt (a9 T82) ([(0,⟨a6 fTP 0,ITP s 0,.normal,XTP s⟩)]) 100 fTP [.c (.str s)] [] []=
  some ⟨.c (.bool (bet (↑s.size:Int) 1 14)),[],true,[ITP s 0=ITP s 0]⟩:=by kernel_rfl
theorem a5F (s:ByteArray):aE tt (a9 T82) ([(0,⟨a6 fTP 0,ITP s 0,.ret,YTP s⟩)]) 100 fTP [.c (.str s)] [] []=
  some ⟨.c (.bool false),[],true,[ITP s 0=ITP s 0]⟩:=by kernel_rfl
theorem lTO (s:ByteArray) (hn:(s.size:Int)≤9223372036854775807):aN none Tryz.prog 0 (.block 0 (.loop (a5 0 (a0 fTO)))) (ITO s 0) fun e t=>e=(bif cH (ltB s) s.size 0 then .normal else .ret)∧t=bif cH (ltB s) s.size 0 then XTO s else YTO s:=by
 refine aN.all (ro:=none) hT t82 bF s.size (ltB s) (fun i=>ITO s i) (XTO s) (YTO s) .ret (.inr rfl) (a6 fTO 0) (a8 fTO 0) (fun _=>[]) (fun _ _=>aK.nil) (fun i hi h=> ?_) (fun i hi h=> ?_) ⟨_,_,⟨_,_,a1E s s.size,by simp,by simp⟩⟩
 ·have h1:=(y4 s i).1 h
  unfold chA at h1
  have e:=a1D s i
  rw[aB (by omega) (by omega),Int.toNat_natCast]at e
  refine⟨_,_,⟨_,_,e, ?_,by simp⟩⟩
  have h2:decide (((s.data.getD i 0).toNat:Int)<97)=false:=decide_eq_false (by omega)
  have h3:decide (((s.data.getD i 0).toNat:Int)>122)=false:=decide_eq_false (by omega)
  simp only[h2,h3,decide_true,rpS,bS];omega
 ·cases h2:decide (chA s i<97)with
  |true=>
   have e:=a1B s i
   rw[Int.toNat_natCast]at e
   unfold chA at h2
   exact⟨_,_,⟨_,_,e,by simp only[h2,decide_true,rpS,bS];omega,by simp⟩⟩
  |false=>
   have h3:decide (chA s i>122)=true:=by
    simp only[ltB,h2,Bool.not_false,Bool.true_and,rpS,Bool.not_eq_false']at h;exact h
   have e:=a1C s i
   rw[Int.toNat_natCast]at e
   unfold chA at h2 h3
   exact⟨_,_,⟨_,_,e,by simp only[h2,h3,decide_true,rpS,bS];omega,by simp⟩⟩
theorem lTP (s:ByteArray) (hn:(s.size:Int)≤9223372036854775807):aN none Tryz.prog 0 (.block 0 (.loop (a5 0 (a0 fTP)))) (ITP s 0) fun e t=>e=(bif cH (ltB s) s.size 0 then .normal else .ret)∧t=bif cH (ltB s) s.size 0 then XTP s else YTP s:=by
 have hb: ∀i:Nat,bet (IntKind.i64.wrap ((s.data.getD i 0).toNat:Int)) 97 122=ltB s i:=fun i=>by
  obtain⟨h1,h2⟩:=QR s i
  rw[Bool.eq_iff_iff,y4]
  unfold chA at h1 h2⊢
  rw[aB (by omega) (by omega),bN]
 refine aN.all (ro:=none) hT t82 bF s.size (ltB s) (fun i=>ITP s i) (XTP s) (YTP s) .ret (.inr rfl) (a6 fTP 0) (a8 fTP 0) (fun _=>[]) (fun _ _=>aK.nil) (fun i hi h=> ?_) (fun i hi h=> ?_) ⟨_,_,⟨_,_,a1H s s.size,by simp,by simp⟩⟩
 ·have e:=a1G s i
  rw[aB (i:=(i:Int)+1) (by omega) (by omega),Int.toNat_natCast,hb]at e
  exact⟨_,_,⟨_,_,e,by simp only[h,decide_true,rpS,bS];omega,by simp⟩⟩
 ·have e:=a1F s i
  rw[Int.toNat_natCast,hb]at e
  exact⟨_,_,⟨_,_,e,by simp only[h,decide_true,rpS,bS];omega,by simp⟩⟩
def vF:aM:=fun args h=>
 match args,h with
 |[.c (.str s)],[]=>
  some (.c (.bool (eA s)),[],[decide ((s.size:Int)≤9223372036854775807)])
 |_,_=>none
theorem mTO:aQ Tryz.prog 96 vF:=by
 intro args h res h' o he ho
 unfold vF at he
 split at he
 case h_2=>cases he
 rename_i s
 simp only[Option.some.injEq,Prod.mk.injEq]at he
 obtain⟨rfl,rfl,rfl⟩:=he
 simp only[List.mem_cons,List.not_mem_nil,or_false,forall_eq_or_imp,forall_eq,decide_eq_true_eq]at ho
 have o1:=ho
 have g:=lTO s o1
 unfold eA
 cases h:cH (ltB s) s.size 0 with
 |true=>rw[h]at g;exact bQ t82 (a4Z s) (by kernel_rfl) (by kernel_rfl) (by kernel_rfl) g (by simp) rfl
 |false=>rw[h]at g;exact bQ t82 (a5E s) (by kernel_rfl) (by kernel_rfl) (by kernel_rfl) g (by simp) rfl
theorem mTP:aQ Tryz.prog 94 vF:=by
 intro args h res h' o he ho
 unfold vF at he
 split at he
 case h_2=>cases he
 rename_i s
 simp only[Option.some.injEq,Prod.mk.injEq]at he
 obtain⟨rfl,rfl,rfl⟩:=he
 simp only[List.mem_cons,List.not_mem_nil,or_false,forall_eq_or_imp,forall_eq,decide_eq_true_eq]at ho
 have o1:=ho
 have g:=lTP s o1
 unfold eA
 cases h:cH (ltB s) s.size 0 with
 |true=>rw[h]at g;exact bQ t82 (a50 s) (by kernel_rfl) (by kernel_rfl) (by kernel_rfl) g (by simp) rfl
 |false=>rw[h]at g;exact bQ t82 (a5F s) (by kernel_rfl) (by kernel_rfl) (by kernel_rfl) g (by simp) rfl
noncomputable def WR:List aZ:=[⟨96,[],vF⟩,⟨94,[],vF⟩,⟨196,[],dV tt (a9 T82) Tryz.f196 []⟩,⟨62,[],dV tt (a9 T82) Tryz.f62 []⟩]++T82
theorem a5K:a7 Tryz.prog WR:=by
 refine a7.append ?_ e82
 intro e he
 simp only[List.mem_cons,List.not_mem_nil,or_false]at he
 rcases he with rfl|rfl|rfl|rfl
 ·exact mTO
 ·exact mTP
 ·exact cG hT t82 bF [] (by kernel_rfl) (by kernel_rfl)
 ·exact cG hT t82 bF [] (by kernel_rfl) (by kernel_rfl)
end
section
open Go.RowKit Go.Shelf
attribute [local go_sem] Oper.semAt_some
def ckV (b off len k:Nat):Value:=.slice (some ⟨b,off+4*k,none⟩) (min 4 (len-4*k)) (min 4 (len-4*k))
def Kp2 (s n:Nat) (W W':World):Prop:=W'.cell? ⟨s,0,none⟩=W.cell? ⟨s,0,none⟩∧W'.cell? ⟨n,0,none⟩=W.cell? ⟨n,0,none⟩
theorem Kp2.trans {s n:Nat} {A B C:World} (h:Kp2 s n A B) (k:Kp2 s n B C):Kp2 s n A C:=⟨k.1.trans h.1,k.2.trans h.2⟩
theorem D8 (k:Nat):List.range (k+1)=List.range k++[k]:=List.range_succ
set_option maxRecDepth 100000 in
set_option maxHeartbeats 4000000 in
theorem J9 (F:Fence) (n:Nat) (hf:F.fn 198) (hro:F.round=none) (hn:1≤n) (l Bs Bn b off len cap:Nat) (hcap:len≤cap) (hlen:len≤1024) (J Jx:List Nat→World→Prop) {BB:Nat} (hJ:AbidesFrom BB J)
  (hY: ∀pre x W,J pre W→pre.length<(len+3)/4→YieldAt F (n-1) Tryz.prog l #[ckV b off len x] W fun e W'=>
   (e=.returned (.bool true)∧J (pre++[x]) W'∧Kp2 Bs Bn W W')∨(e=.returned (.bool false)∧Jx (pre++[x]) W'))
  (W:World) (hBs:W.cell? ⟨Bs,0,none⟩=some (.slice (some ⟨b,off,none⟩) len cap)) (hBn:W.cell? ⟨Bn,0,none⟩=some (.int .i64 4)) (h0:J [] W):
  CallsIn F n Tryz.prog 198 #[.func (.yield l) #[] #[],.pointer (some ⟨Bs,0,none⟩),.pointer (some ⟨Bn,0,none⟩)] W fun e W'=>(∃v,e=.returned v)∧
   ((∃ys,ys=List.range ((len+3)/4)∧J ys W')∨(∃pre,True∧Jx pre W')):=by
 refine callsIn_of_wp Tryz.func198 rfl hf ?_ hro
 simp only[Tryz.ntmps198,List.size_toArray,List.length_cons,List.length_nil,Nat.reduceAdd,Nat.reduceSub,Array.replicate_succ,Array.replicate_zero,List.push_toArray,List.append_toArray,List.nil_append,List.cons_append]
 gi_wp2
 gi_loopw [4] (fun i wr=> ∃k:Nat,4*k<len+4∧i=.int .i64 ((4*k:Nat):Int)∧J (List.range k) wr∧Kp2 Bs Bn W wr)
  (fun i _=>len-(intOf i).toNat)
 case atStart=>exact⟨0,by omega,rfl,h0,rfl,rfl⟩
 case round=>
  obtain⟨k,hk,rfl,hJs,hk1,hk2⟩:=hrel
  have hBs':=hk1.trans hBs
  have hBn':=hk2.trans hBn
  by_cases hlt:4*k<len
  ·obtain⟨fn,tmps,assign,body,hy,hR⟩:=hY _ k wr.drew (hJ _ _ _ none hJs ⟨rfl,rfl,rfl,Nat.le_refl _,fun _ _ _=>rfl⟩ (fun r e=>by cases e)) (by rw[List.length_range];omega)
   rw[←D8]at hR
   have hlt':4*(k:Int)<len:=by omega
   rcases Nat.lt_or_ge (len-4*k) 4 with h4|h4
   ·have e1:ckV b off len k=.slice (some ⟨b,off+4*k,none⟩) (len-4*k) (len-4*k):=by
     unfold ckV;rw[Nat.min_eq_right (by omega)]
    rw[e1]at hy
    gi_wp2
    gi_region
    all_goals gi_wp2
    all_goals (try go_bits)
    all_goals (try omega)
    all_goals (
     refine hR.mono ?_
     rintro e W3 (⟨rfl,hJ3,hk3⟩|⟨rfl,hJx3⟩)
     ·have hBs3:=hk3.1.trans hBs'
      have hBn3:=hk3.2.trans hBn'
      gi_wp2
      go_roundw
      case rel=>exact⟨k+1,by omega,by simp;omega,hJ3,(Kp2.trans ⟨hk1,hk2⟩ hk3).1,(Kp2.trans ⟨hk1,hk2⟩ hk3).2⟩
      case measure=>simp[intOf];omega
     ·gi_wp2
      refine bodyPost_ret (results_none rfl _ _ _) rfl ?_
      exact⟨⟨_,rfl⟩,.inr ⟨_,trivial,hJx3⟩⟩)
   ·have e1:ckV b off len k=.slice (some ⟨b,off+4*k,none⟩) 4 4:=by
     unfold ckV;rw[Nat.min_eq_left (by omega)]
    rw[e1]at hy
    gi_wp2
    gi_region
    all_goals gi_wp2
    all_goals (try go_bits)
    all_goals (try omega)
    all_goals (
     refine hR.mono ?_
     rintro e W3 (⟨rfl,hJ3,hk3⟩|⟨rfl,hJx3⟩)
     ·have hBs3:=hk3.1.trans hBs'
      have hBn3:=hk3.2.trans hBn'
      gi_wp2
      go_roundw
      case rel=>exact⟨k+1,by omega,by simp;omega,hJ3,(Kp2.trans ⟨hk1,hk2⟩ hk3).1,(Kp2.trans ⟨hk1,hk2⟩ hk3).2⟩
      case measure=>simp[intOf];omega
     ·gi_wp2
      refine bodyPost_ret (results_none rfl _ _ _) rfl ?_
      exact⟨⟨_,rfl⟩,.inr ⟨_,trivial,hJx3⟩⟩)
  ·have hlt': ¬4*(k:Int)<len:=by omega
   obtain rfl:k=(len+3)/4:=by omega
   gi_wp2
   go_end0
   exact⟨⟨_,rfl⟩,.inl hJs⟩
end
section
open Go.RowKit
noncomputable abbrev fTC:=Tryz.f97
noncomputable abbrev jS:Func:= {fTC with body:=some (.block 0 (.loop ((gN (a0 fTC)).getD .skip)))}
noncomputable def s5:List aZ:=[⟨144,[],dV tt (a9 T82) Tryz.f144 [(0,false)]⟩,⟨145,[0],dV tt (a9 T82) Tryz.f145 []⟩]++WR
theorem X0:a7 Tryz.prog s5:=by
 refine a7.append ?_ a5K
 intro e he
 simp only[List.mem_cons,List.not_mem_nil,or_false]at he
 rcases he with rfl|rfl
 ·exact cG hT t82 bF [(0,false)] (by kernel_rfl) (by kernel_rfl)
 ·exact cG hT t82 bF [] (by kernel_rfl) (by kernel_rfl)
theorem G5:bK Tryz.prog (a9 s5):=aO X0
noncomputable def STC (rs:List (List Int)) (n:Nat) (ck:List Int):St:=aR fTC.ntmps [(3,.c (.ptr 0 0 0 0)),(4,.c (.view none (.ints .u8 ck) ck.length 1 none))] [.live (.cells [.sl 1 0 n 1 none]),.live (.ivs .i64 rs)]
noncomputable def ITC (rs:List (List Int)) (n:Nat) (ck v:List Int) (i:Int):St:=aR fTC.ntmps [(3,.c (.ptr 0 0 0 0)),(4,.c (.view none (.ints .u8 ck) ck.length 1 none)),(5,.c (.sl 2 0 4 1 none)),(17,.c (.view none (.ints .u8 ck) ck.length 1 none)),(18,.c (.int .i64 (ck.length:Int))),(19,.c (.int .i64 i))] [.live (.cells [.sl 1 0 n 1 none]),.live (.ivs .i64 rs),.live (.ints .i64 v)]
noncomputable def XTC (rs:List (List Int)) (n:Nat) (ck v:List Int):St:=aR fTC.ntmps [(3,.c (.ptr 0 0 0 0)),(4,.c (.view none (.ints .u8 ck) ck.length 1 none)),(5,.c (.sl 2 0 4 1 none))] [.live (.cells [.sl 1 0 n 1 none]),.live (.ivs .i64 rs),.live (.ints .i64 v)]
noncomputable def RTC (rs:List (List Int)) (n:Nat) (ck:List Int):St:=aR fTC.ntmps [(3,.c (.ptr 0 0 0 0)),(4,.c (.view none (.ints .u8 ck) ck.length 1 none))] [.live (.cells [.sl 2 0 n 1 none]),.dead,.live (.ivs .i64 rs)]
noncomputable def QTC (rs:List (List Int)) (n:Nat):St:=aR fTC.ntmps [(3,.c (.ptr 0 0 0 0))] [.live (.cells [.sl 1 0 n 1 none]),.live (.ivs .i64 rs)]
noncomputable def PTC (zs:List Int) (n:Nat):St:=aR fTC.ntmps [(3,.c (.ptr 0 0 0 0)),(14,.c (.fn 198 [.ptr 1 0 0 0,.ptr 2 0 0 0]))] [.live (.cells [.sl 3 0 0 1 none]),.live (.cells [.view none (.ints .u8 zs) n 1 none]),.live (.ints .i64 [4]),.live (.ivs .i64 [])]
theorem a15 (rs:List (List Int)) (n:Nat) (ck v:List Int) (i:Int):aC 2 (a6 jS 2) (a8 jS 2) (aD tt (a9 T82) ([]) 2 100 (a5 2 (a0 jS)) (ITC rs n ck v i) [(0,true)])=
  some (.normal,(decide (i<(↑ck.length:Int))&&(decide (0≤i)&&(decide (i<(↑ck.length:Int))&&(decide (i.toNat<ck.length)&&(decide (0≤i)&&(decide (i<4)&&((decide (i.toNat<v.length))&&true))))))),[],ITC rs n ck (v.set i.toNat (IntKind.i64.wrap (IntKind.i64.wrap (IntKind.u8.wrap (ck.getD i.toNat 0-97))+1))) (IntKind.i64.wrap (i+1))):=by kernel_rfl
theorem a16 (rs:List (List Int)) (n:Nat) (ck v:List Int) (i:Int):aC 2 (a6 jS 2) (a8 jS 2) (aD tt (a9 T82) ([]) 2 100 (a5 2 (a0 jS)) (ITC rs n ck v i) [(0,false)])=
  some (.exit 2,((!decide (i<(↑ck.length:Int)))&&true),[],XTC rs n ck v):=by kernel_rfl
theorem YY (rs:List (List Int)) (n:Nat) (ck v:List Int):aC 2 (a6 jS 0) (a8 jS 0) (aD tt (a9 T82) ([(2,⟨a6 jS 2,ITC rs n ck [0,0,0,0] 0,.normal,XTC rs n ck v⟩)]) 2 100 (a5 0 (a0 jS)) (STC rs n ck) [])=
  some (.normal,(decide (4=v.length)&&(decide (n=rs.length)&&((decide (n+1≤274877906944))&&true))),[ITC rs n ck [0,0,0,0] 0=ITC rs n ck [0,0,0,0] 0],RTC (rs++[v]) (n+1) ck):=by kernel_rfl
theorem a4N (s:ByteArray) (rs:List (List Int)) (n:Nat) (lcv:List (Nat×LC)):aE tt (a9 s5) (lcv) 100 fTC [.c (.str s)] [] [(0,true)]=
  some ⟨.c .nils,[],(decide ((↑s.size:Int)≤9223372036854775807)&&((!eA s)&&true)),[]⟩:=by kernel_rfl
theorem a4O (s:ByteArray) (rs:List (List Int)) (n:Nat):aE tt (a9 s5) ([(0,⟨[3,14],PTC (bR s) s.size,.normal,QTC rs n⟩)]) 100 fTC [.c (.str s)] [] [(0,false)]=
  some ⟨.c (.sl 0 0 (↑n:Int).toNat 1 none),[.live (.ivs .i64 rs)],(decide ((↑s.size:Int)≤9223372036854775807)&&(!!eA s&&((rp2 (decide ((↑n:Int)≤(↑n:Int))) true)&&true))),[PTC (bR s) s.size=PTC (bR s) s.size]⟩:=by kernel_rfl
def p5 (n:Int):Int:=IntKind.i64.wrap (IntKind.i64.wrap (IntKind.u8.wrap (n-97))+1)
def KH (ck:List Int) (i:Nat) (v:List Int):List Int:=v.set i (p5 (ck.getD i 0))
def gV (ck:List Int):List Int:=bH (KH ck) ck.length 0 [0,0,0,0]
def ckL (zs:List Int) (k:Nat):List Int:=(zs.drop (4*k)).take 4
def cM (zs:List Int):List (List Int):=(List.range ((zs.length+3)/4)).map fun k=>gV (ckL zs k)
theorem iM (ck:List Int):(gV ck).length=4:=aY (step:=KH ck) (fun _ v=>v.length=4) _ _ rfl fun k b _ h=>by unfold KH;rw[List.length_set];exact h
theorem lTC {ro:Option Nat} (rs:List (List Int)) (n:Nat) (ck:List Int) (hc:ck.length≤4):aN ro Tryz.prog 2 (.block 2 (.loop (a5 2 (a0 jS)))) (ITC rs n ck [0,0,0,0] 0) fun e t=>e=.normal∧t=XTC rs n ck (gV ck):=by
 refine aN.count (ro:=ro) hT t82 bF (m:=2) (id:=2) (body:=a5 2 (a0 jS)) ck.length (fun _ v=>v.length=4) (fun i v=>ITC rs n ck v i) (fun v=>XTC rs n ck v) (KH ck) (a6 jS 2) (a8 jS 2) (fun _ _=>[]) (fun _ _ _ _=>aK.nil) (fun i v hi hv=>⟨by unfold KH;rw[List.length_set];exact hv, ?_⟩) (fun v _=>⟨_,_,⟨_,_,a16 rs n ck v ck.length,by simp,by simp⟩⟩) [0,0,0,0] rfl
 have e:=a15 rs n ck v i
 rw[aB (i:=(i:Int)+1) (by omega) (by omega),Int.toNat_natCast]at e
 refine⟨_,_,⟨_,_,e, ?_,by simp⟩⟩
 simp only[hv,decide_true,rpS,bS]
 omega
theorem bTC {ro:Option Nat} (rs:List (List Int)) (ck:List Int) (hc:ck.length≤4) (hr:rs.length≤1024):aN ro Tryz.prog 2 ((gN (a0 fTC)).getD .skip) (STC rs rs.length ck) fun e t=>e=.normal∧t=RTC (rs++[gV ck]) (rs.length+1) ck:=by
 have hl:aK ro Tryz.prog 2 [(2,(⟨a6 jS 2,ITC rs rs.length ck [0,0,0,0] 0,.normal,XTC rs rs.length ck (gV ck)⟩:LC))] (a5 0 (a0 jS)):=
  aK.blk (b:=.loop (a5 2 (a0 jS))) (by kernel_rfl) (lTC rs rs.length ck hc) aK.nil
 have e:a5 0 (a0 jS)=(gN (a0 fTC)).getD .skip:=by kernel_rfl
 rw[←e]
 exact MJ hT t82 bF (YY rs rs.length ck (gV ck)) (by simp only[iM,decide_true,rpS,bS];omega) (by simp) hl
end
section
open Go.RowKit
theorem r7 (zs:List Int) (k:Nat):(ckL zs k).length=min 4 (zs.length-4*k):=by unfold ckL;simp
theorem E6 (zs:List Int) (k q:Nat) (hq:q<(ckL zs k).length):(ckL zs k).getD q 0=zs.getD (4*k+q) 0:=by
 have h:q<4:=by rw[r7]at hq;omega
 unfold ckL
 rw[List.getD_eq_getElem?_getD,List.getD_eq_getElem?_getD,List.getElem?_take,if_pos h,List.getElem?_drop]
def qF (zs:List Int) (pre:List Nat):List (List Int):=pre.map fun k=>gV (ckL zs k)
abbrev gCK:Nat:=198
theorem WV:oH 0 (a0 fTC)=[.rangeFunc (.tmp 14) #[15] ((nO (a0 fTC)).getD .skip) ((gN (a0 fTC)).getD .skip)]:=by kernel_rfl
theorem WU:QM ((nO (a0 fTC)).getD .skip) 4 15=true:=by kernel_rfl
def ES (a:Act) (v:Value):Act:= {tmps:=(#[15].zip #[v]).foldl (fun t (p,v)=>t.setIfInBounds p v) a.tmps,defers:=[]}
def CG (a:Act) (v:Value):Act:=(ES a v).put (some 4) ((ES a v).eval (.tmp 15))
theorem ET (a:Act) (v:Value) (h:a.tmps.size=38):(CG a v).tmps.size=38∧(CG a v).tmps.getD 3 undef=a.tmps.getD 3 undef∧(CG a v).tmps.getD 4 undef=v∧(CG a v).defers=[]:=by
 have e:(ES a v).tmps=a.tmps.setIfInBounds 15 v:=by simp[ES]
 have e2:(ES a v).eval (.tmp 15)=v:=by
  show(ES a v).tmps.getD 15 undef=v
  rw[e];simp[Array.getD,h]
 unfold CG
 rw[e2]
 refine⟨by simp[Act.put,e,h], ?_, ?_,rfl⟩
 ·simp[Act.put,e,Array.getD,h]
 ·simp[Act.put,e,Array.getD,h]
set_option maxRecDepth 100000 in
theorem gTC (zs:List Int) (h1:1≤zs.length) (h2:zs.length≤1024):
  aN none Tryz.prog 0 (.block 0 (.rangeFunc (.tmp 14) #[15] ((nO (a0 fTC)).getD .skip) ((gN (a0 fTC)).getD .skip))) (PTC zs zs.length) fun e t=>e=.normal∧t=QTC (cM zs) (cM zs).length:=by
 intro X w0 ρ0 ρ a w h0 r n
 refine wpIn_block ?_
 refine UB (n:=9) ?_
 have h0': ∀k,ρ0 k=.unborn:=fun k=>h0 k (Nat.zero_le k)
 have hl:(PTC zs zs.length).tmps.length=38:=rfl
 have hsz:a.tmps.size=38:=r.size.trans hl
 have t14:AVR X w ρ (.c (.fn gCK [.ptr 1 0 0 0,.ptr 2 0 0 0])) (a.tmps.getD 14 undef):=r.tmps 14 (by rw[hl];decide)
 obtain⟨b1,e1,R1⟩:=AQ (c:=.cells [.view none (.ints .u8 zs) zs.length 1 none]) (r.mem.slot 1) (by show 0<1;decide)
 obtain⟨b2,e2,R2⟩:=AQ (c:=.ints .i64 [4]) (r.mem.slot 2) (by decide)
 obtain⟨v1,c1,q1⟩:=AK (q:=0) R1 (by show 0<1;decide)
 obtain⟨v2,c2,q2⟩:=AK (q:=0) R2 (by decide)
 have q1:CR X w ρ (.view none (.ints .u8 zs) zs.length 1 none) v1:=q1
 have q2:CR X w ρ (.int .i64 4) v2:=q2
 obtain rfl:v2=.int .i64 4:=by cases q2;rfl
 obtain⟨b,base,k,u,hL,hu,hk,rfl⟩: ∃(b base k:Nat) (u:Nat→Value),(¬(b9 ρ b∨X b))∧(∀q,q<zs.length→w.cell? ⟨b,base+q,none⟩=some (u q)∧u q=.int .u8 (zs.getD q 0))∧zs.length≤k∧v1=.slice (some ⟨b,base,none⟩) zs.length k:=by
  obtain⟨m,hm⟩: ∃m,zs.length=m:=⟨_,rfl⟩
  rw[hm]at q1
  cases q1 with
  |view _ _ _ _ _ b base k u hl hc hu hz hk hcap hnl=>exact⟨b,base,k,u,hl h1,fun q hq=>⟨hc q hq,by have:=hu q hq;generalize u q=v at this;cases this;rfl⟩,by omega,by rw[hm]⟩
  |viewNone _ _ _ _ a k hz hcap hnl hk=>omega
 obtain⟨vs,hv,hvs⟩: ∃vs:Array Value,a.tmps.getD 14 undef=.func (.func gCK) #[] vs∧vs= #[.pointer (some ⟨b1,0,none⟩),.pointer (some ⟨b2,0,none⟩)]:=by
  generalize a.tmps.getD 14 undef=v14 at t14
  cases t14 with
  |c _ _ h=>cases h with
   |fn _ _ vs hs hh=>
    refine⟨vs,rfl, ?_⟩
    have g0:=EF (hh 0 (by decide)) e1
    have g1:=EF (hh 1 (by decide)) e2
    obtain⟨l⟩:=vs
    match l,hs with
    |[x,y],_=>simp at g0 g1;rw[g0,g1]
 subst hvs
 have lt1:b1<w.heap.size:=cell?_lt c1
 have lt2:b2<w.heap.size:=cell?_lt c2
 have ltb:b<w.heap.size:=cell?_lt (hu 0 h1).1
 have r1:=r.remap0 h0' (live:=[3]) (order:=[0,3]) (by decide)
 obtain⟨ρ1,hρ1⟩: ∃ρ1,cB (PTC zs zs.length).heap [0,3] ρ=ρ1:=⟨_,rfl⟩
 rw[hρ1,(by kernel_rfl:Am.remap [3] [0,3] (PTC zs zs.length)=QTC [] 0)]at r1
 have hsub: ∀x,b9 ρ1 x→b9 ρ x:=fun x hx=>dC _ _ _ x (by rw[hρ1];exact hx)
 have hrow: ∀x,b9 ρ1 x→ρ 0=.row x∨ρ 3=.row x:=fun x ⟨j,hj⟩=>by
  rw[←hρ1]at hj
  obtain⟨id,h3,h4⟩:=fJ hj
  match j,h3 with
  |0,h3=>cases h3;exact .inl h4
  |1,h3=>cases h3;exact .inr h4
 have n1: ¬b9 ρ1 b1:=fun h=>by
  rcases hrow b1 h with h|h
  ·have:=r.mem.inj 0 1 b1 h e1;omega
  ·have:=r.mem.inj 3 1 b1 h e1;omega
 have n2: ¬b9 ρ1 b2:=fun h=>by
  rcases hrow b2 h with h|h
  ·have:=r.mem.inj 0 2 b2 h e2;omega
  ·have:=r.mem.inj 3 2 b2 h e2;omega
 have nb: ¬b9 ρ1 b:=fun h=>hL (.inl (hsub b h))
 have hw0:=r.mem.size
 refine wpIn_rangeFunc_ownG (F:=FW none) rfl (by omega) (gf:=gCK) (lb:= #[.pointer (some ⟨b1,0,none⟩),.pointer (some ⟨b2,0,none⟩)]) hv trivial (enters_of Tryz.func198 (by kernel_rfl) rfl)
  (α:=Nat) (encs:=fun i=> #[ckV b base zs.length i]) (Kp:=Kp2 b1 b2) (S:=fun ys=>ys=List.range ((zs.length+3)/4)) (Sp:=fun _=>True) (N:=(zs.length+3)/4) (w0:=w)
  (fun l J Jx W hW hJ hJx hY h0J=>J9 (FW none) 8 trivial rfl (by omega) l b1 b2 b base zs.length k hk h2 J Jx hJ hY W ((hW.cell (p:=⟨b1,0,none⟩) lt1).trans c1) ((hW.cell (p:=⟨b2,0,none⟩) lt2).trans c2) h0J)
  Kp2.trans (fun W l o o' hl _ _ _=>⟨World.cell?_of_block (World.putObj_heap_other (show b1≠l by omega)),World.cell?_of_block (World.putObj_heap_other (show b2≠l by omega))⟩) (Below.refl _ _) (fun _=>rfl)
  (fun pre W=> ∃ρ',Rel X w0 ρ0 (QTC (qF zs pre) (qF zs pre).length) ρ' {tmps:=a.tmps,defers:=[]} W∧cX w (b9 ρ1) W (b9 ρ')) (fun _ _ _=>False)
  ?hI (fun _ _ _ _ _ hs _ _=>hs) ⟨ρ1,⟨r1.size,r1.tmps,r1.mem,gX.nil _ _,r1.mono,r1.ids⟩,cX.refl _ _⟩ (fun i=>CG a (ckV b base zs.length i)) (fun l i W K hK=>L3 WU hK) ?body ?done (fun D c pre W _ _ h _=>h.elim)
 case hI=>
  rintro pre W W' row ⟨ρ',R,M⟩ hg hr
  have hr': ∀x,row=some x→w0.heap.size≤x:=fun x hx=>by have:=(hr x hx).1;omega
  obtain⟨m',hc,hs⟩:=R.mem.grown hg fun x hx=>⟨hr' x hx,(hr x hx).2⟩
  exact⟨ρ',⟨R.size,fun t ht=>AVR.keepC hc hs (R.tmps t ht),m',gX.nil _ _,R.mono.grown hg hr',R.ids⟩,M.grown hg fun x hx=>(hr x hx).1⟩
 case body=>
  rintro l pre i W ⟨ρ',R,M⟩ hlen
  obtain⟨rs,hrs⟩: ∃rs,qF zs pre=rs:=⟨_,rfl⟩
  have hrl:rs.length≤1024:=by rw[←hrs];unfold qF;rw[List.length_map];omega
  rw[hrs]at R
  obtain⟨a1,a2,a3,a4⟩:=ET a (ckV b base zs.length i) hsz
  have hWs:=M.size
  have nl: ∀x,x<w.heap.size→ ¬b9 ρ1 x→ ¬b9 ρ' x:=fun x hx hn h=>by
   rcases M.fresh x h with h|h
   ·exact hn h
   ·omega
  have hcl:=r7 zs i
  have hview:AVR X W ρ' (.c (.view none (.ints .u8 (ckL zs i)) (ckL zs i).length 1 none)) (ckV b base zs.length i):=by
   refine .c _ _ ?_
   unfold ckV
   rw[←hcl]
   refine .view none _ _ 1 none b (base+4*i) _ (fun q=> .int .u8 ((ckL zs i).getD q 0)) (fun _ h=> ?_) (fun q hq=> ?_) (fun q hq=> .int _ _) (by simp[Con.size]) (Nat.le_refl _) (fun _ h=>by cases h) (fun _ h=>by cases h)
   ·rcases h with h|h
    ·exact nl b ltb nb h
    ·exact hL (.inr h)
   ·have hq':q<(ckL zs i).length:=hq
    rw[E6 zs i q hq']
    obtain⟨g1,g2⟩:=hu (4*i+q) (by rw[hcl]at hq';omega)
    rw[cell?_same (M.keep b ltb nb),show base+4*i+q=base+(4*i+q)from by omega,g1,g2]
  have hrel:Rel X W ρ' (STC rs rs.length (ckL zs i)) ρ' (CG a (ckV b base zs.length i)) W:=by
   refine⟨a1,fun t ht=> ?_,R.mem.base,by rw[a4];exact gX.nil _ _,cX.refl _ _,cA.refl _⟩
   have ht:t<38:=ht
   by_cases e3:t=3
   ·subst e3
    rw[a2];exact R.tmps 3 (by show 3<38;decide)
   ·by_cases e4:t=4
    ·subst e4;rw[a3];exact hview
    ·rw[show(STC rs rs.length (ckL zs i)).tmps.getD t (.tup [])=.any from KS ht (by simp[e3,e4])];exact .any _
  have hun: ∀j,2≤j→ρ' j=.unborn:=fun j hj=>by
   have hs:=R.mem.slot j
   rw[Heap.get_ge (by show 2≤j;exact hj)]at hs
   cases hx:ρ' j<;>rw[hx]at hs<;>first|rfl|exact hs.elim
  refine wpIn_mono (bTC (ro:=some l) rs (ckL zs i) (by rw[hcl];omega) hrl hun hrel _) ?_
  rintro e a' W' ⟨x,t,ρ'',rfl,⟨rfl,rfl⟩,Q⟩
  have keep: ∀x,x<w.heap.size→ ¬b9 ρ1 x→W'.heap[x]? =W.heap[x]? :=fun x hx hn=>Q.mono.keep x (by omega) (nl x hx hn)
  refine⟨⟨Q.mono.size,fun x o _ ho hc=>by rw[Q.mono.keep x (Array.getElem?_eq_some_iff.1 ho).1 (R.mem.noRow ho hc)];exact ho⟩,⟨cell?_same (keep b1 lt1 n1),cell?_same (keep b2 lt2 n2)⟩, ?_⟩
  have R':Rel X w0 ρ0 ⟨(QTC [] 0).tmps,(RTC (rs++[gV (ckL zs i)]) (rs.length+1) (ckL zs i)).heap⟩ ρ'' {tmps:=a.tmps,defers:=[]} W':=
   ⟨R.size,fun t ht=>AVR.monoB Q.mono Q.ids (R.tmps t ht),R.mem.outer Q.mem,gX.nil _ _,R.mono.trans Q.mono,R.ids.trans Q.ids⟩
  have R3:=R'.remap0 h0' (live:=[3]) (order:=[0,2]) (by decide)
  rw[(by kernel_rfl:Am.remap [3] [0,2] ⟨(QTC [] 0).tmps,(RTC (rs++[gV (ckL zs i)]) (rs.length+1) (ckL zs i)).heap⟩=QTC (rs++[gV (ckL zs i)]) (rs.length+1))]at R3
  have e:qF zs (pre++[i])=rs++[gV (ckL zs i)]:=by rw[←hrs];simp[qF]
  show∃ρ',Rel X w0 ρ0 (QTC (qF zs (pre++[i])) (qF zs (pre++[i])).length) ρ' _ _∧_
  rw[e,List.length_append]
  exact⟨_,R3,M.trans (Q.mono.trans ⟨fun _ _ _=>rfl,fun _ _=>rfl,Nat.le_refl _,fun x hx=> .inl (dC _ _ _ x hx)⟩)⟩
 case done=>
  rintro D ys W hD rfl ⟨ρ',R,M⟩ hk
  refine⟨.normal,_,ρ',rfl,⟨rfl,rfl⟩,⟨R.size,R.tmps,R.mem, ?_,R.mono,R.ids⟩⟩
  obtain⟨Ds,d1,d2,d3⟩:=r.defers
  have lt: ∀x∈Ds,x<w.heap.size:=fun x hx=>(Array.getElem?_eq_some_iff.1 (d3 x hx).2).1
  refine⟨D::Ds,List.nodup_cons.2 ⟨fun h=> ?_,d1⟩,by simp[d2],fun x hx=> ?_⟩
  ·have:=lt D h;omega
  ·rcases List.mem_cons.1 hx with rfl|hx
   ·exact⟨by omega,hk⟩
   ·refine⟨(d3 x hx).1, ?_⟩
    rw[M.keep x (lt x hx) (fun h=>r.mem.noMark (d3 x hx).2 (hsub x h))];exact(d3 x hx).2
end
section
def gH (s:ByteArray):List (List Int):=bif eA s then cM (bR s)else []
theorem fD (s:ByteArray):(bR s).length=s.size:=by unfold bR;rw[List.length_map,Array.length_toList];rfl
def Q3:aM:=fun args h=>
 match args,h with
 |[.c (.str s)],[]=>
  some (.c (.sl 0 0 (gH s).length 1 none),[.live (.ivs .i64 (gH s))],[decide ((s.size:Int)≤9223372036854775807)])
 |_,_=>none
theorem mTC:aQ Tryz.prog 97 Q3:=by
 intro args h res h' o he ho
 unfold Q3 at he
 split at he
 case h_2=>cases he
 rename_i s
 simp only[Option.some.injEq,Prod.mk.injEq]at he
 obtain⟨rfl,rfl,rfl⟩:=he
 simp only[List.mem_cons,List.not_mem_nil,or_false,forall_eq_or_imp,forall_eq,decide_eq_true_eq]at ho
 have o1:=ho
 unfold gH
 cases h:eA s with
 |false=>exact bE.nils (c0:=.ivs .i64 []) (cF G5 (a4N s [] 0 []) (by kernel_rfl) (by kernel_rfl) rfl (by simp only[h,o1,decide_true,rpS,decide_false,beq_self_eq_true,bne_self_eq_false,Bool.not_true,Bool.not_false,Bool.not_not,cond_true,cond_false,Bool.true_and,Bool.and_true,Bool.false_and,Bool.and_false,Bool.or_true,Bool.true_or,Bool.or_false,Bool.false_or,Bool.and_eq_true,Bool.not_eq_true',decide_eq_true_eq,decide_eq_false_iff_not,true_and,and_true])) rfl
 |true=>
  have hs:1≤s.size∧s.size≤14:=by
   unfold eA at h
   rw[Bool.and_eq_true]at h
   have:=bN.1 h.2
   omega
  have g:=gTC (bR s) (by rw[fD];omega) (by rw[fD];omega)
  rw[fD]at g
  have e:=a4O s (cM (bR s)) (cM (bR s)).length
  rw[Int.toNat_natCast]at e
  refine mo G5 e (by simp only[h,o1,Int.le_refl,decide_true,rpS,decide_false,beq_self_eq_true,bne_self_eq_false,Bool.not_true,Bool.not_false,Bool.not_not,cond_true,cond_false,Bool.true_and,Bool.and_true,Bool.false_and,Bool.and_false,Bool.or_true,Bool.true_or,Bool.or_false,Bool.false_or,Bool.and_eq_true,Bool.not_eq_true',decide_eq_true_eq,decide_eq_false_iff_not,true_and,and_true]) (hlc:=(fun cc hcc=> ?_))
  have ec:a0 fTC=cc:=by unfold a0;rw[hcc]
  exact aK.blk (by rw[←ec];exact WV) g aK.nil
theorem qY {α:Type} [BEq α] [LawfulBEq α] {d:α} {a b:List α} (h:a.length=b.length):cH (fun i=>a.getD i d==b.getD i d) a.length 0=(a==b):=by
 rw[Bool.eq_iff_iff,cC,beq_iff_eq]
 constructor
 ·intro g
  exact sO (d:=d) h fun i hi=>beq_iff_eq.1 (g i (Nat.zero_le _) (by omega))
 ·rintro rfl i _ _
  exact beq_self_eq_true _
noncomputable abbrev fQE:=Tryz.f169
noncomputable def IQE (a b:List Int) (i:Int):St:=aR fQE.ntmps [(0,.c (.view none (.ints .i64 a) a.length 1 none)),(1,.c (.view none (.ints .i64 b) b.length 1 none)),(12,.c (.int .i64 (a.length:Int))),(13,.c (.int .i64 i))] []
noncomputable def XQE:St:=aR fQE.ntmps [] []
noncomputable def YQE:St:=aR fQE.ntmps [(4,.c (.bool false))] []
theorem a0X (a b:List Int) (i:Int):aC 0 (a6 fQE 0) (a8 fQE 0) (aD tt (a9 s5) ([]) 0 100 (a5 0 (a0 fQE)) (IQE a b i) [(0,true),(0,true)])=
  some (.ret,(decide (i<(↑a.length:Int))&&(decide (0≤i)&&(decide (i<(↑a.length:Int))&&(decide (i.toNat<a.length)&&(decide (0≤i)&&(decide (i<(↑b.length:Int))&&(decide (i.toNat<b.length)&&((a.getD i.toNat 0 !=b.getD i.toNat 0)&&true)))))))),[],YQE):=by kernel_rfl
theorem a0Y (a b:List Int) (i:Int):aC 0 (a6 fQE 0) (a8 fQE 0) (aD tt (a9 s5) ([]) 0 100 (a5 0 (a0 fQE)) (IQE a b i) [(0,true),(0,false)])=
  some (.normal,(decide (i<(↑a.length:Int))&&(decide (0≤i)&&(decide (i<(↑a.length:Int))&&(decide (i.toNat<a.length)&&(decide (0≤i)&&(decide (i<(↑b.length:Int))&&(decide (i.toNat<b.length)&&((!a.getD i.toNat 0 !=b.getD i.toNat 0)&&true)))))))),[],IQE a b (IntKind.i64.wrap (i+1))):=by kernel_rfl
theorem a0Z (a b:List Int) (i:Int):aC 0 (a6 fQE 0) (a8 fQE 0) (aD tt (a9 s5) ([]) 0 100 (a5 0 (a0 fQE)) (IQE a b i) [(0,false)])=
  some (.exit 0,((!decide (i<(↑a.length:Int)))&&true),[],XQE):=by kernel_rfl
theorem a4C (a b:List Int) (lcv:List (Nat×LC)):aE tt (a9 s5) (lcv) 100 fQE [.c (.view none (.ints .i64 a) a.length 1 none),.c (.view none (.ints .i64 b) b.length 1 none)] [] [(0,true)]=
  some ⟨.c (.bool false),[],(((↑a.length:Int)!=(↑b.length:Int))&&true),[]⟩:=by kernel_rfl
theorem a4D (a b:List Int):aE tt (a9 s5) ([(0,⟨a6 fQE 0,IQE a b 0,.normal,XQE⟩)]) 100 fQE [.c (.view none (.ints .i64 a) a.length 1 none),.c (.view none (.ints .i64 b) b.length 1 none)] [] [(0,false)]=
  some ⟨.c (.bool true),[],((!(↑a.length:Int)!=(↑b.length:Int))&&true),[IQE a b 0=IQE a b 0]⟩:=by kernel_rfl
theorem a5A (a b:List Int):aE tt (a9 s5) ([(0,⟨a6 fQE 0,IQE a b 0,.ret,YQE⟩)]) 100 fQE [.c (.view none (.ints .i64 a) a.length 1 none),.c (.view none (.ints .i64 b) b.length 1 none)] [] [(0,false)]=
  some ⟨.c (.bool false),[],((!(↑a.length:Int)!=(↑b.length:Int))&&true),[IQE a b 0=IQE a b 0]⟩:=by kernel_rfl
theorem D3 {α:Type} [BEq α] [LawfulBEq α] {a b:List α} (h:((a.length:Int)!=(b.length:Int))=true):(a==b)=false:=by
 rw[beq_eq_false_iff_ne];rintro rfl;simp at h
theorem D2 {α:Type} {a b:List α} (h:((a.length:Int)!=(b.length:Int))=false):a.length=b.length:=by
 simp only[bne_eq_false_iff_eq]at h;omega
theorem lQE (a b:List Int) (hab:a.length=b.length) (hn:a.length≤274877906944):aN none Tryz.prog 0 (.block 0 (.loop (a5 0 (a0 fQE)))) (IQE a b 0) fun e t=>e=(bif a==b then .normal else .ret)∧t=bif a==b then XQE else YQE:=by
 rw[←qY (d:=0) hab]
 refine aN.all (ro:=none) hT G5 bF a.length (fun i=>a.getD i 0==b.getD i 0) (fun i=>IQE a b i) XQE YQE .ret (.inr rfl) (a6 fQE 0) (a8 fQE 0) (fun _=>[]) (fun _ _=>aK.nil) (fun i hi h=> ?_) (fun i hi h=> ?_) ⟨_,_,⟨_,_,a0Z a b a.length,by simp,by simp⟩⟩
 ·have h:(a.getD i 0==b.getD i 0)=true:=h
  have e:=a0Y a b i
  rw[aB (by omega) (by omega),Int.toNat_natCast]at e
  exact⟨_,_,⟨_,_,e,by simp only[bne,h,decide_true,rpS,decide_false,beq_self_eq_true,bne_self_eq_false,Bool.not_true,Bool.not_false,Bool.not_not,cond_true,cond_false,Bool.true_and,Bool.and_true,Bool.false_and,Bool.and_false,Bool.or_true,Bool.true_or,Bool.or_false,Bool.false_or,Bool.and_eq_true,Bool.not_eq_true',decide_eq_true_eq,decide_eq_false_iff_not,true_and,and_true];omega,by simp⟩⟩
 ·have h:(a.getD i 0==b.getD i 0)=false:=h
  have e:=a0X a b i
  rw[Int.toNat_natCast]at e
  exact⟨_,_,⟨_,_,e,by simp only[bne,h,decide_true,rpS,decide_false,beq_self_eq_true,bne_self_eq_false,Bool.not_true,Bool.not_false,Bool.not_not,cond_true,cond_false,Bool.true_and,Bool.and_true,Bool.false_and,Bool.and_false,Bool.or_true,Bool.true_or,Bool.or_false,Bool.false_or,Bool.and_eq_true,Bool.not_eq_true',decide_eq_true_eq,decide_eq_false_iff_not,true_and,and_true];omega,by simp⟩⟩
def PV:aM:=fun args h=>
 match args,h with
 |[.c (.view _ (.ints .i64 a) n1 1 _),.c (.view _ (.ints .i64 b) n2 1 _)],[]=>
  some (.c (.bool (a==b)),[],[decide (a.length≤274877906944)])
 |_,_=>none
theorem mQE:aS Tryz.prog 169 PV:=by
 intro args h res h' o hnorm he ho
 unfold PV at he
 split at he
 case h_2=>cases he
 rename_i nl1 a n1 cap1 nl2 b n2 cap2
 simp only[Option.some.injEq,Prod.mk.injEq]at he
 obtain⟨rfl,rfl,rfl⟩:=he
 simp only[List.mem_cons,List.not_mem_nil,or_false,forall_eq_or_imp,forall_eq,decide_eq_true_eq]at ho
 have o1:=ho
 simp only[b8,AV.norm,bA,aF.norm,Con.size,List.cons.injEq,AV.c.injEq,AV.agg.injEq,aF.view.injEq,aL,true_and,and_true]at hnorm
 obtain⟨⟨rfl,rfl,rfl⟩,rfl,rfl,rfl⟩:=hnorm
 cases h:((a.length:Int)!=(b.length:Int))with
 |true=>rw[D3 h];exact cF G5 (a4C a b []) (by kernel_rfl) (by kernel_rfl) rfl (by rw[h];rfl)
 |false=>
  have g:=lQE a b (D2 h) o1
  cases he:a==b with
  |true=>rw[he]at g;exact bQ G5 (a4D a b) (by kernel_rfl) (by kernel_rfl) (by kernel_rfl) g (by simp) (by rw[h];rfl)
  |false=>rw[he]at g;exact bQ G5 (a5A a b) (by kernel_rfl) (by kernel_rfl) (by kernel_rfl) g (by simp) (by rw[h];rfl)
noncomputable def xL:List aZ:=[⟨169,[],nm PV⟩,⟨97,[],Q3⟩]++s5
theorem X1:a7 Tryz.prog xL:=by
 refine a7.append ?_ X0
 intro e he
 simp only[List.mem_cons,List.not_mem_nil,or_false]at he
 rcases he with rfl|rfl
 ·exact mQE.ok
 ·exact mTC
theorem OG:bK Tryz.prog (a9 xL):=aO X1
noncomputable abbrev fQF:=Tryz.f168
noncomputable def IQF (a b:List (List Int)) (i:Int):St:=aR fQF.ntmps [(1,.c (.view none (.ivs .i64 b) b.length 1 none)),(2,.c (.fn 169 [])),(15,.c (.view none (.ivs .i64 a) a.length 1 none)),(16,.c (.int .i64 (a.length:Int))),(17,.c (.int .i64 i))] []
noncomputable def XQF:St:=aR fQF.ntmps [] []
noncomputable def YQF:St:=aR fQF.ntmps [(6,.c (.bool false))] []
theorem a10 (a b:List (List Int)) (i:Int):aC 0 (a6 fQF 0) (a8 fQF 0) (aD tt (a9 xL) ([]) 0 100 (a5 0 (a0 fQF)) (IQF a b i) [(0,true),(0,true)])=
  some (.ret,(decide (i<(↑a.length:Int))&&(decide (0≤i)&&(decide (i<(↑a.length:Int))&&(decide (i.toNat<a.length)&&(decide (0≤i)&&(decide (i<(↑b.length:Int))&&(decide (i.toNat<b.length)&&(decide ((a.getD i.toNat []).length≤274877906944)&&((!a.getD i.toNat []==b.getD i.toNat [])&&true))))))))),[],YQF):=by kernel_rfl
theorem a11 (a b:List (List Int)) (i:Int):aC 0 (a6 fQF 0) (a8 fQF 0) (aD tt (a9 xL) ([]) 0 100 (a5 0 (a0 fQF)) (IQF a b i) [(0,true),(0,false)])=
  some (.normal,(decide (i<(↑a.length:Int))&&(decide (0≤i)&&(decide (i<(↑a.length:Int))&&(decide (i.toNat<a.length)&&(decide (0≤i)&&(decide (i<(↑b.length:Int))&&(decide (i.toNat<b.length)&&(decide ((a.getD i.toNat []).length≤274877906944)&&((!!a.getD i.toNat []==b.getD i.toNat [])&&true))))))))),[],IQF a b (IntKind.i64.wrap (i+1))):=by kernel_rfl
theorem a12 (a b:List (List Int)) (i:Int):aC 0 (a6 fQF 0) (a8 fQF 0) (aD tt (a9 xL) ([]) 0 100 (a5 0 (a0 fQF)) (IQF a b i) [(0,false)])=
  some (.exit 0,((!decide (i<(↑a.length:Int)))&&true),[],XQF):=by kernel_rfl
theorem a4E (a b:List (List Int)) (lcv:List (Nat×LC)):aE tt (a9 xL) (lcv) 100 fQF [.c (.view none (.ivs .i64 a) a.length 1 none),.c (.view none (.ivs .i64 b) b.length 1 none),.c (.fn 169 [])] [] [(0,true)]=
  some ⟨.c (.bool false),[],(((↑a.length:Int)!=(↑b.length:Int))&&true),[]⟩:=by kernel_rfl
theorem a4F (a b:List (List Int)):aE tt (a9 xL) ([(0,⟨a6 fQF 0,IQF a b 0,.normal,XQF⟩)]) 100 fQF [.c (.view none (.ivs .i64 a) a.length 1 none),.c (.view none (.ivs .i64 b) b.length 1 none),.c (.fn 169 [])] [] [(0,false)]=
  some ⟨.c (.bool true),[],((!(↑a.length:Int)!=(↑b.length:Int))&&true),[IQF a b 0=IQF a b 0]⟩:=by kernel_rfl
theorem a5B (a b:List (List Int)):aE tt (a9 xL) ([(0,⟨a6 fQF 0,IQF a b 0,.ret,YQF⟩)]) 100 fQF [.c (.view none (.ivs .i64 a) a.length 1 none),.c (.view none (.ivs .i64 b) b.length 1 none),.c (.fn 169 [])] [] [(0,false)]=
  some ⟨.c (.bool false),[],((!(↑a.length:Int)!=(↑b.length:Int))&&true),[IQF a b 0=IQF a b 0]⟩:=by kernel_rfl
theorem lQF (a b:List (List Int)) (hab:a.length=b.length) (hn:a.length≤274877906944) (hr: ∀x∈a,x.length≤274877906944):aN none Tryz.prog 0 (.block 0 (.loop (a5 0 (a0 fQF)))) (IQF a b 0) fun e t=>e=(bif a==b then .normal else .ret)∧t=bif a==b then XQF else YQF:=by
 have hl: ∀i:Nat,(a.getD i []).length≤274877906944:=fun i=>by
  rw[List.getD_eq_getElem?_getD]
  cases h:a[i]? with
  |none=>simp
  |some x=>exact hr x (List.mem_of_getElem? h)
 rw[←qY (d:=[]) hab]
 refine aN.all (ro:=none) hT OG bF a.length (fun i=>a.getD i []==b.getD i []) (fun i=>IQF a b i) XQF YQF .ret (.inr rfl) (a6 fQF 0) (a8 fQF 0) (fun _=>[]) (fun _ _=>aK.nil) (fun i hi h=> ?_) (fun i hi h=> ?_) ⟨_,_,⟨_,_,a12 a b a.length,by simp,by simp⟩⟩
 ·have h:(a.getD i []==b.getD i [])=true:=h
  have e:=a11 a b i
  rw[aB (by omega) (by omega),Int.toNat_natCast]at e
  exact⟨_,_,⟨_,_,e,by simp only[h,hl,decide_true,rpS,decide_false,beq_self_eq_true,bne_self_eq_false,Bool.not_true,Bool.not_false,Bool.not_not,cond_true,cond_false,Bool.true_and,Bool.and_true,Bool.false_and,Bool.and_false,Bool.or_true,Bool.true_or,Bool.or_false,Bool.false_or,Bool.and_eq_true,Bool.not_eq_true',decide_eq_true_eq,decide_eq_false_iff_not,true_and,and_true];omega,by simp⟩⟩
 ·have h:(a.getD i []==b.getD i [])=false:=h
  have e:=a10 a b i
  rw[Int.toNat_natCast]at e
  exact⟨_,_,⟨_,_,e,by simp only[h,hl,decide_true,rpS,decide_false,beq_self_eq_true,bne_self_eq_false,Bool.not_true,Bool.not_false,Bool.not_not,cond_true,cond_false,Bool.true_and,Bool.and_true,Bool.false_and,Bool.and_false,Bool.or_true,Bool.true_or,Bool.or_false,Bool.false_or,Bool.and_eq_true,Bool.not_eq_true',decide_eq_true_eq,decide_eq_false_iff_not,true_and,and_true];omega,by simp⟩⟩
def fN (m:List (List Int)):Bool:=decide (m.length≤274877906944)&&m.all fun x=>decide (x.length≤274877906944)
theorem kJ {m:List (List Int)} (h:fN m=true):m.length≤274877906944∧ ∀x∈m,x.length≤274877906944:=by
 simp only[fN,Bool.and_eq_true,rpS,decide_eq_true_eq,List.all_eq_true]at h;exact h
def PW:aM:=fun args h=>
 match args,h with
 |[.c (.view _ (.ivs .i64 a) n1 1 _),.c (.view _ (.ivs .i64 b) n2 1 _),.c (.fn g [])],[]=>
  some (.c (.bool (a==b)),[],[fN a,decide (g=169)])
 |_,_=>none
theorem mQF:aS Tryz.prog 168 PW:=by
 intro args h res h' o hnorm he ho
 unfold PW at he
 split at he
 case h_2=>cases he
 rename_i nl1 a n1 cap1 nl2 b n2 cap2 g
 simp only[Option.some.injEq,Prod.mk.injEq]at he
 obtain⟨rfl,rfl,rfl⟩:=he
 simp only[List.mem_cons,List.not_mem_nil,or_false,forall_eq_or_imp,forall_eq,decide_eq_true_eq]at ho
 obtain⟨o1,o2⟩:=ho
 simp only[b8,AV.norm,bA,aF.norm,Con.size,List.cons.injEq,AV.c.injEq,AV.agg.injEq,aF.view.injEq,aL,true_and,and_true]at hnorm
 obtain⟨⟨rfl,rfl,rfl⟩,⟨rfl,rfl,rfl⟩⟩:=hnorm
 subst o2
 obtain⟨o1,hr⟩:=kJ o1
 cases h:((a.length:Int)!=(b.length:Int))with
 |true=>rw[D3 h];exact cF OG (a4E a b []) (by kernel_rfl) (by kernel_rfl) rfl (by rw[h];rfl)
 |false=>
  have g:=lQF a b (D2 h) o1 hr
  cases he:a==b with
  |true=>rw[he]at g;exact bQ OG (a4F a b) (by kernel_rfl) (by kernel_rfl) (by kernel_rfl) g (by simp) (by rw[h];rfl)
  |false=>rw[he]at g;exact bQ OG (a5B a b) (by kernel_rfl) (by kernel_rfl) (by kernel_rfl) g (by simp) (by rw[h];rfl)
end
section
noncomputable def jP:List aZ:=[⟨168,[],nm PW⟩]++xL
theorem X2:a7 Tryz.prog jP:=by
 refine a7.append ?_ X1
 intro e he
 simp only[List.mem_cons,List.not_mem_nil,or_false]at he
 subst he;exact mQF.ok
theorem B1:bK Tryz.prog (a9 jP):=aO X2
noncomputable abbrev fS3:=Tryz.f164
noncomputable def IS3 (a b:List (List Int)) (i:Int):St:=aR fS3.ntmps [(0,.c (.view none (.ivs .i64 a) a.length 1 none)),(1,.c (.view none (.ivs .i64 b) b.length 1 none)),(5,.c (.int .i64 i))] []
noncomputable def JS3 (a b:List (List Int)) (i k:Int):St:=aR fS3.ntmps [(0,.c (.view none (.ivs .i64 a) a.length 1 none)),(1,.c (.view none (.ivs .i64 b) b.length 1 none)),(5,.c (.int .i64 i)),(6,.c (.int .i64 k))] []
noncomputable def YS3 (a b:List (List Int)) (i:Int):St:=aR fS3.ntmps [(0,.c (.view none (.ivs .i64 a) a.length 1 none)),(1,.c (.view none (.ivs .i64 b) b.length 1 none)),(4,.c (.bool false)),(5,.c (.int .i64 i))] []
noncomputable def ZS3:St:=aR fS3.ntmps [(4,.c (.bool false))] []
noncomputable def XS3:St:=aR fS3.ntmps [] []
theorem XQ (a b:List (List Int)) (i k:Int):aC 0 (a6 fS3 2) (a8 fS3 2) (aD tt (a9 jP) ([]) 0 100 (a5 2 (a0 fS3)) (JS3 a b i k) [(0,true),(0,true)])=
  some (.ret,(decide (k<4)&&(decide (0≤i)&&(decide (i<(↑a.length:Int))&&(decide (i.toNat<a.length)&&(decide (0≤k)&&(decide (k<(↑(a.getD i.toNat []).length:Int))&&(decide (k.toNat<(a.getD i.toNat []).length)&&(decide (0≤i)&&(decide (i<(↑b.length:Int))&&(decide (i.toNat<b.length)&&(decide (0≤k)&&(decide (k<(↑(b.getD i.toNat []).length:Int))&&(decide (k.toNat<(b.getD i.toNat []).length)&&(((a.getD i.toNat []).getD k.toNat 0 !=(b.getD i.toNat []).getD k.toNat 0)&&true)))))))))))))),[],YS3 a b i):=by kernel_rfl
theorem XR (a b:List (List Int)) (i k:Int):aC 0 (a6 fS3 2) (a8 fS3 2) (aD tt (a9 jP) ([]) 0 100 (a5 2 (a0 fS3)) (JS3 a b i k) [(0,true),(0,false)])=
  some (.normal,(decide (k<4)&&(decide (0≤i)&&(decide (i<(↑a.length:Int))&&(decide (i.toNat<a.length)&&(decide (0≤k)&&(decide (k<(↑(a.getD i.toNat []).length:Int))&&(decide (k.toNat<(a.getD i.toNat []).length)&&(decide (0≤i)&&(decide (i<(↑b.length:Int))&&(decide (i.toNat<b.length)&&(decide (0≤k)&&(decide (k<(↑(b.getD i.toNat []).length:Int))&&(decide (k.toNat<(b.getD i.toNat []).length)&&((!(a.getD i.toNat []).getD k.toNat 0 !=(b.getD i.toNat []).getD k.toNat 0)&&true)))))))))))))),[],JS3 a b i (IntKind.i64.wrap (k+1))):=by kernel_rfl
theorem XS (a b:List (List Int)) (i k:Int):aC 0 (a6 fS3 2) (a8 fS3 2) (aD tt (a9 jP) ([]) 0 100 (a5 2 (a0 fS3)) (JS3 a b i k) [(0,false)])=
  some (.exit 2,((!decide (k<4))&&true),[],IS3 a b i):=by kernel_rfl
theorem a13 (a b:List (List Int)) (i:Int):aC 0 (a6 fS3 0) (a8 fS3 0) (aD tt (a9 jP) ([(2,⟨a6 fS3 2,JS3 a b i 0,.normal,IS3 a b i⟩)]) 0 100 (a5 0 (a0 fS3)) (IS3 a b i) [(0,true)])=
  some (.normal,((decide (i<(↑a.length:Int)))&&true),[JS3 a b i 0=JS3 a b i 0],IS3 a b (IntKind.i64.wrap (i+1))):=by kernel_rfl
theorem a14 (a b:List (List Int)) (i:Int) (lcv:List (Nat×LC)):aC 0 (a6 fS3 0) (a8 fS3 0) (aD tt (a9 jP) (lcv) 0 100 (a5 0 (a0 fS3)) (IS3 a b i) [(0,false)])=
  some (.exit 0,((!decide (i<(↑a.length:Int)))&&true),[],XS3):=by kernel_rfl
theorem YX (a b:List (List Int)) (i:Int):aC 0 (a6 fS3 0) (a8 fS3 0) (aD tt (a9 jP) ([(2,⟨a6 fS3 2,JS3 a b i 0,.ret,YS3 a b i⟩)]) 0 100 (a5 0 (a0 fS3)) (IS3 a b i) [(0,true)])=
  some (.ret,((decide (i<(↑a.length:Int)))&&true),[JS3 a b i 0=JS3 a b i 0],ZS3):=by kernel_rfl
theorem a4G (a b:List (List Int)) (lcv:List (Nat×LC)):aE tt (a9 jP) (lcv) 100 fS3 [.c (.view none (.ivs .i64 a) a.length 1 none),.c (.view none (.ivs .i64 b) b.length 1 none)] [] [(0,true)]=
  some ⟨.c (.bool false),[],(((↑a.length:Int)!=(↑b.length:Int))&&true),[]⟩:=by kernel_rfl
theorem a4H (a b:List (List Int)):aE tt (a9 jP) ([(0,⟨a6 fS3 0,IS3 a b 0,.normal,XS3⟩)]) 100 fS3 [.c (.view none (.ivs .i64 a) a.length 1 none),.c (.view none (.ivs .i64 b) b.length 1 none)] [] [(0,false)]=
  some ⟨.c (.bool true),[],((!(↑a.length:Int)!=(↑b.length:Int))&&true),[IS3 a b 0=IS3 a b 0]⟩:=by kernel_rfl
theorem a5C (a b:List (List Int)):aE tt (a9 jP) ([(0,⟨a6 fS3 0,IS3 a b 0,.ret,ZS3⟩)]) 100 fS3 [.c (.view none (.ivs .i64 a) a.length 1 none),.c (.view none (.ivs .i64 b) b.length 1 none)] [] [(0,false)]=
  some ⟨.c (.bool false),[],((!(↑a.length:Int)!=(↑b.length:Int))&&true),[IS3 a b 0=IS3 a b 0]⟩:=by kernel_rfl
def qQ (m:List (List Int)):Bool:=m.all fun x=>x.length==4
theorem z9 {m:List (List Int)} (h:qQ m=true) {i:Nat} (hi:i<m.length):(m.getD i []).length=4:=by
 have:=List.all_eq_true.1 h (m.getD i []) (by rw[List.getD_eq_getElem?_getD,List.getElem?_eq_getElem hi];exact List.getElem_mem hi)
 simpa using this
theorem a6G (a b:List (List Int)) (i:Nat) (hi:i<a.length) (hab:a.length=b.length) (hn:a.length≤274877906944) (ha:(a.getD i []).length=4) (hb:(b.getD i []).length=4):
  aN none Tryz.prog 0 (.block 2 (.loop (a5 2 (a0 fS3)))) (JS3 a b i 0) fun e t=>e=(bif a.getD i []==b.getD i []then .normal else .ret)∧t=bif a.getD i []==b.getD i []then IS3 a b i else YS3 a b i:=by
 rw[←qY (d:=0) (ha.trans hb.symm),ha]
 refine aN.all (ro:=none) hT B1 bF 4 (fun k=>(a.getD i []).getD k 0==(b.getD i []).getD k 0) (fun k=>JS3 a b i k) (IS3 a b i) (YS3 a b i) .ret (.inr rfl) (a6 fS3 2) (a8 fS3 2) (fun _=>[]) (fun _ _=>aK.nil) (fun k hk h=> ?_) (fun k hk h=> ?_) ⟨_,_,⟨_,_,XS a b i 4,by simp,by simp⟩⟩
 ·have h:((a.getD i []).getD k 0==(b.getD i []).getD k 0)=true:=h
  have e:=XR a b i k
  rw[aB (by omega) (by omega),Int.toNat_natCast,Int.toNat_natCast]at e
  exact⟨_,_,⟨_,_,e,by simp only[bne,h,ha,hb,decide_true,rpS,decide_false,beq_self_eq_true,bne_self_eq_false,Bool.not_true,Bool.not_false,Bool.not_not,cond_true,cond_false,Bool.true_and,Bool.and_true,Bool.false_and,Bool.and_false,Bool.or_true,Bool.true_or,Bool.or_false,Bool.false_or,Bool.and_eq_true,Bool.not_eq_true',decide_eq_true_eq,decide_eq_false_iff_not,true_and,and_true];omega,by simp⟩⟩
 ·have h:((a.getD i []).getD k 0==(b.getD i []).getD k 0)=false:=h
  have e:=XQ a b i k
  rw[Int.toNat_natCast,Int.toNat_natCast]at e
  exact⟨_,_,⟨_,_,e,by simp only[bne,h,ha,hb,decide_true,rpS,decide_false,beq_self_eq_true,bne_self_eq_false,Bool.not_true,Bool.not_false,Bool.not_not,cond_true,cond_false,Bool.true_and,Bool.and_true,Bool.false_and,Bool.and_false,Bool.or_true,Bool.true_or,Bool.or_false,Bool.false_or,Bool.and_eq_true,Bool.not_eq_true',decide_eq_true_eq,decide_eq_false_iff_not,true_and,and_true];omega,by simp⟩⟩
theorem lS3 (a b:List (List Int)) (hab:a.length=b.length) (hn:a.length≤274877906944) (ha:qQ a=true) (hb:qQ b=true):aN none Tryz.prog 0 (.block 0 (.loop (a5 0 (a0 fS3)))) (IS3 a b 0) fun e t=>e=(bif a==b then .normal else .ret)∧t=bif a==b then XS3 else ZS3:=by
 rw[←qY (d:=[]) hab]
 have lc: ∀i,i<a.length→ ∀ex q,(ex=(bif a.getD i []==b.getD i []then .normal else .ret)∧q=bif a.getD i []==b.getD i []then IS3 a b i else YS3 a b i)→aK none Tryz.prog 0 [(2,(⟨a6 fS3 2,JS3 a b i 0,ex,q⟩:LC))] (a5 0 (a0 fS3)):=fun i hi ex q h=>by
  obtain⟨rfl,rfl⟩:=h
  exact aK.blk (b:=.loop (a5 2 (a0 fS3))) (by kernel_rfl) (a6G a b i hi hab hn (z9 ha hi) (z9 hb (by omega))) aK.nil
 refine aN.all (ro:=none) hT B1 bF a.length (fun i=>a.getD i []==b.getD i []) (fun i=>IS3 a b i) XS3 ZS3 .ret (.inr rfl) (a6 fS3 0) (a8 fS3 0) (fun i=>[(2,⟨a6 fS3 2,JS3 a b i 0,bif a.getD i []==b.getD i []then .normal else .ret,bif a.getD i []==b.getD i []then IS3 a b i else YS3 a b i⟩)]) (fun i hi=>lc i hi _ _ ⟨rfl,rfl⟩) (fun i hi h=> ?_) (fun i hi h=> ?_) ⟨_,_,⟨_,_,a14 a b a.length [],by simp,by simp⟩⟩
 ·have h:(a.getD i []==b.getD i [])=true:=h
  have e:=a13 a b i
  rw[aB (by omega) (by omega)]at e
  refine⟨100,[(0,true)], ?_⟩
  rw[h]
  exact⟨_,_,e,by simp;omega,by simp⟩
 ·have h:(a.getD i []==b.getD i [])=false:=h
  have e:=YX a b i
  refine⟨100,[(0,true)], ?_⟩
  rw[h]
  exact⟨_,_,e,by simp;omega,by simp⟩
def PZ:aM:=fun args h=>
 match args,h with
 |[.c (.view _ (.ivs .i64 a) n1 1 _),.c (.view _ (.ivs .i64 b) n2 1 _)],[]=>
  some (.c (.bool (a==b)),[],[decide (a.length≤274877906944),qQ a,qQ b])
 |_,_=>none
theorem mS3:aS Tryz.prog 164 PZ:=by
 intro args h res h' o hnorm he ho
 unfold PZ at he
 split at he
 case h_2=>cases he
 rename_i nl1 a n1 cap1 nl2 b n2 cap2
 simp only[Option.some.injEq,Prod.mk.injEq]at he
 obtain⟨rfl,rfl,rfl⟩:=he
 simp only[List.mem_cons,List.not_mem_nil,or_false,forall_eq_or_imp,forall_eq,decide_eq_true_eq]at ho
 obtain⟨o1,o2,o3⟩:=ho
 simp only[b8,AV.norm,bA,aF.norm,Con.size,List.cons.injEq,AV.c.injEq,AV.agg.injEq,aF.view.injEq,aL,true_and,and_true]at hnorm
 obtain⟨⟨rfl,rfl,rfl⟩,rfl,rfl,rfl⟩:=hnorm
 cases h:((a.length:Int)!=(b.length:Int))with
 |true=>rw[D3 h];exact cF B1 (a4G a b []) (by kernel_rfl) (by kernel_rfl) rfl (by rw[h];rfl)
 |false=>
  have g:=lS3 a b (D2 h) o1 o2 o3
  cases he:a==b with
  |true=>rw[he]at g;exact bQ B1 (a4H a b) (by kernel_rfl) (by kernel_rfl) (by kernel_rfl) g (by simp) (by rw[h];rfl)
  |false=>rw[he]at g;exact bQ B1 (a5C a b) (by kernel_rfl) (by kernel_rfl) (by kernel_rfl) g (by simp) (by rw[h];rfl)
noncomputable abbrev fLC:=Tryz.f142
noncomputable def ILC (s:ByteArray) (m:List (List Int)) (n:Nat) (i:Int):St:=aR fLC.ntmps [(0,.c (.str s)),(3,.c (.sl 0 0 n 1 none)),(4,.c (.int .i64 i))] [.live (.ivs .i64 m)]
noncomputable def XLC (m:List (List Int)) (n:Nat):St:=aR fLC.ntmps [(3,.c (.sl 0 0 n 1 none))] [.live (.ivs .i64 m)]
noncomputable def JLC (s:ByteArray) (m:List (List Int)) (n:Nat) (i:Int) (v:List Int) (k:Int):St:=aR fLC.ntmps [(0,.c (.str s)),(3,.c (.sl 0 0 n 1 none)),(4,.c (.int .i64 i)),(5,.c (.sl 1 0 4 1 none)),(6,.c (.int .i64 k))] [.live (.ivs .i64 m),.live (.ints .i64 v)]
noncomputable def KLC (s:ByteArray) (m:List (List Int)) (n:Nat) (i:Int) (v:List Int):St:=aR fLC.ntmps [(0,.c (.str s)),(3,.c (.sl 0 0 n 1 none)),(4,.c (.int .i64 i)),(5,.c (.sl 1 0 4 1 none))] [.live (.ivs .i64 m),.live (.ints .i64 v)]
theorem XJ (s:ByteArray) (m:List (List Int)) (n:Nat) (i:Int) (v:List Int) (k:Int):aC 0 (a6 fLC 2) (a8 fLC 2) (aD tt (a9 jP) ([]) 0 100 (a5 2 (a0 fLC)) (JLC s m n i v k) [(0,true),(0,true)])=
  some (.normal,(decide (k<4)&&(decide (IntKind.i64.wrap (IntKind.i64.wrap (i*4)+k)<(↑s.size:Int))&&(decide (0≤IntKind.i64.wrap (IntKind.i64.wrap (i*4)+k))&&(decide (IntKind.i64.wrap (IntKind.i64.wrap (i*4)+k)<(↑s.size:Int))&&(decide (0≤k)&&(decide (k<4)&&((decide (k.toNat<v.length))&&true))))))),[],JLC s m n i (v.set k.toNat (IntKind.i64.wrap (IntKind.i64.wrap (IntKind.u8.wrap ((↑(s.data.getD (IntKind.i64.wrap (IntKind.i64.wrap (i*4)+k)).toNat 0).toNat:Int)-97))+1))) (IntKind.i64.wrap (k+1))):=by kernel_rfl
theorem XK (s:ByteArray) (m:List (List Int)) (n:Nat) (i:Int) (v:List Int) (k:Int):aC 0 (a6 fLC 2) (a8 fLC 2) (aD tt (a9 jP) ([]) 0 100 (a5 2 (a0 fLC)) (JLC s m n i v k) [(0,true),(0,false)])=
  some (.normal,(decide (k<4)&&((!decide (IntKind.i64.wrap (IntKind.i64.wrap (i*4)+k)<(↑s.size:Int)))&&true)),[],JLC s m n i (v) (IntKind.i64.wrap (k+1))):=by kernel_rfl
theorem XL (s:ByteArray) (m:List (List Int)) (n:Nat) (i:Int) (v:List Int) (k:Int):aC 0 (a6 fLC 2) (a8 fLC 2) (aD tt (a9 jP) ([]) 0 100 (a5 2 (a0 fLC)) (JLC s m n i v k) [(0,false)])=
  some (.exit 2,((!decide (k<4))&&true),[],KLC s m n i v):=by kernel_rfl
theorem a0G (s:ByteArray) (m:List (List Int)) (n:Nat) (i:Int) (v:List Int):aC 0 (a6 fLC 0) (a8 fLC 0) (aD tt (a9 jP) ([(2,⟨a6 fLC 2,JLC s m n i [0,0,0,0] 0,.normal,KLC s m n i v⟩)]) 0 100 (a5 0 (a0 fLC)) (ILC s m n i) [(0,true)])=
  some (.normal,(decide (i<IntKind.i64.wrap ((IntKind.i64.wrap (IntKind.i64.wrap ((↑s.size:Int)+4)-1)).tdiv 4))&&(decide (4=v.length)&&(decide (n=m.length)&&((decide (n+1≤274877906944))&&true)))),[JLC s m n i [0,0,0,0] 0=JLC s m n i [0,0,0,0] 0],ILC s (m++[v]) (n+1) (IntKind.i64.wrap (i+1))):=by kernel_rfl
theorem a0H (s:ByteArray) (m:List (List Int)) (n:Nat) (i:Int) (v:List Int) (lcv:List (Nat×LC)):aC 0 (a6 fLC 0) (a8 fLC 0) (aD tt (a9 jP) (lcv) 0 100 (a5 0 (a0 fLC)) (ILC s m n i) [(0,false)])=
  some (.exit 0,((!decide (i<IntKind.i64.wrap ((IntKind.i64.wrap (IntKind.i64.wrap ((↑s.size:Int)+4)-1)).tdiv 4)))&&true),[],XLC m n):=by kernel_rfl
theorem a43 (s:ByteArray) (m:List (List Int)) (n:Nat):aE tt (a9 jP) ([(0,⟨a6 fLC 0,ILC s [] 0 0,.normal,XLC m n⟩)]) 100 fLC [.c (.str s)] [] []=
  some ⟨.c (.sl 0 0 n 1 none),[.live (.ivs .i64 m)],true,[ILC s [] 0 0=ILC s [] 0 0]⟩:=by kernel_rfl
theorem yD (Q:Nat→Bool) (G:Nat→Int) (n:Nat) (hn:n≤4):(bH (fun k v=>bif Q k then v.set k (G k)else v) n 0 [0,0,0,0]).length=4∧ ∀q,q<4→(bH (fun k v=>bif Q k then v.set k (G k)else v) n 0 [0,0,0,0]).getD q 0=bif decide (q<n)&&Q q then G q else 0:=by
 refine aY (step:=fun k v=>bif Q k then v.set k (G k)else v) (fun m v=>v.length=4∧ ∀q,q<4→v.getD q 0=bif decide (q<m)&&Q q then G q else 0) n [0,0,0,0] ⟨rfl,fun q hq=> ?_⟩ fun k v hk ⟨h1,h2⟩=>⟨?_,fun q hq=> ?_⟩
 ·match q,hq with
  |0,_|1,_|2,_|3,_=>rfl
 ·cases Q k<;>simp[h1]
 ·cases hQ:Q k with
  |false=>
   rw[cond_false,h2 q hq]
   by_cases e:q=k
   ·subst e;rw[hQ];simp
   ·rw[show decide (q<k+1)=decide (q<k)from by rw[Bool.eq_iff_iff];simp only[decide_eq_true_eq];omega]
  |true=>
   rw[cond_true,List.getD_eq_getElem?_getD,List.getElem?_set]
   by_cases e:k=q
   ·subst e;rw[if_pos rfl,if_pos (by omega),hQ];simp
   ·rw[if_neg e,←List.getD_eq_getElem?_getD,h2 q hq,show decide (q<k+1)=decide (q<k)from by rw[Bool.eq_iff_iff];simp only[decide_eq_true_eq];omega]
def stC (s:ByteArray) (i k:Nat) (v:List Int):List Int:=bif decide (4*i+k<s.size)then v.set k (p5 (chA s (4*i+k)))else v
theorem AY (s:ByteArray) (i:Nat):(bR s).getD i 0=chA s i:=by
 unfold bR chA
 rw[List.getD_eq_getElem?_getD,List.getElem?_map,Array.getElem?_toList,Array.getD_eq_getD_getElem?]
 cases s.data[i]? <;>simp
theorem O8 (s:ByteArray) (i:Nat):bH (stC s i) 4 0 [0,0,0,0]=gV (ckL (bR s) i):=by
 have hc:=r7 (bR s) i
 rw[fD]at hc
 obtain⟨a1,a2⟩:=yD (fun k=>decide (4*i+k<s.size)) (fun k=>p5 (chA s (4*i+k))) 4 (Nat.le_refl _)
 obtain⟨b1,b2⟩:=yD (fun _=>true) (fun k=>p5 ((ckL (bR s) i).getD k 0)) (ckL (bR s) i).length (by omega)
 refine sO (d:=0) (a1.trans b1.symm) fun q hq=> ?_
 have hq4:q<4:=by rw[←a1];exact hq
 refine(a2 q hq4).trans ((b2 q hq4).trans ?_).symm
 by_cases h:4*i+q<s.size
 ·have h2:q<(ckL (bR s) i).length:=by omega
  rw[E6 _ _ _ h2,AY];simp[h,h2,hq4]
 ·have h2: ¬q<(ckL (bR s) i).length:=by omega
  simp[h,h2]
theorem a6F (s:ByteArray) (m:List (List Int)) (n i:Nat) (hs:s.size≤1048576) (hi:4*i<s.size+4):aN none Tryz.prog 0 (.block 2 (.loop (a5 2 (a0 fLC)))) (JLC s m n i [0,0,0,0] 0) fun e t=>e=.normal∧t=KLC s m n i (gV (ckL (bR s) i)):=by
 rw[←O8]
 refine aN.count (ro:=none) hT B1 bF (m:=0) (id:=2) 4 (fun _ v=>v.length=4) (fun k v=>JLC s m n i v k) (fun v=>KLC s m n i v) (stC s i) (a6 fLC 2) (a8 fLC 2) (fun _ _=>[]) (fun _ _ _ _=>aK.nil) (fun k v hk hv=>⟨by unfold stC;cases decide (4*i+k<s.size)<;>simp[hv], ?_⟩) (fun v _=>⟨_,_,⟨_,_,XL s m n i v 4,by simp,by simp⟩⟩) [0,0,0,0] rfl
 have ew:IntKind.i64.wrap (IntKind.i64.wrap ((i:Int)*4)+(k:Int))=((4*i+k:Nat):Int):=by
  rw[aB (i:=(i:Int)*4) (by omega) (by omega),aB (by omega) (by omega)];omega
 unfold stC
 by_cases h:4*i+k<s.size
 ·have e:=XJ s m n i v k
  rw[ew,aB (i:=(k:Int)+1) (by omega) (by omega),Int.toNat_natCast,Int.toNat_natCast]at e
  rw[decide_eq_true h,cond_true]
  refine⟨_,_,⟨_,_,e, ?_,by simp⟩⟩
  simp only[hv,decide_true,rpS,decide_false,beq_self_eq_true,bne_self_eq_false,Bool.not_true,Bool.not_false,Bool.not_not,cond_true,cond_false,Bool.true_and,Bool.and_true,Bool.false_and,Bool.and_false,Bool.or_true,Bool.true_or,Bool.or_false,Bool.false_or,Bool.and_eq_true,Bool.not_eq_true',decide_eq_true_eq,decide_eq_false_iff_not,true_and,and_true];omega
 ·have e:=XK s m n i v k
  rw[ew,aB (i:=(k:Int)+1) (by omega) (by omega)]at e
  rw[decide_eq_false h,cond_false]
  refine⟨_,_,⟨_,_,e, ?_,by simp⟩⟩
  simp only[decide_true,rpS,decide_false,beq_self_eq_true,bne_self_eq_false,Bool.not_true,Bool.not_false,Bool.not_not,cond_true,cond_false,Bool.true_and,Bool.and_true,Bool.false_and,Bool.and_false,Bool.or_true,Bool.true_or,Bool.or_false,Bool.false_or,Bool.and_eq_true,Bool.not_eq_true',decide_eq_true_eq,decide_eq_false_iff_not,true_and,and_true];omega
def stM (s:ByteArray) (i:Nat) (m:List (List Int)):List (List Int):=m++[gV (ckL (bR s) i)]
theorem EJ (s:ByteArray): ∀f i m,bH (stM s) f i m=m++(List.range' i f).map fun k=>gV (ckL (bR s) k)
 |0,i,m=>by simp[bH]
 |f+1,i,m=>by rw[bH,EJ s f (i+1)];simp[stM,List.range'_succ]
theorem lLC (s:ByteArray) (hs:s.size≤1048576):aN none Tryz.prog 0 (.block 0 (.loop (a5 0 (a0 fLC)))) (ILC s [] 0 0) fun e t=>e=.normal∧t=XLC (cM (bR s)) (cM (bR s)).length:=by
 have er:bH (stM s) ((s.size+3)/4) 0 []=cM (bR s):=by rw[EJ,←List.range_eq_range'];unfold cM;rw[fD];rfl
 have ew:IntKind.i64.wrap ((IntKind.i64.wrap (IntKind.i64.wrap ((s.size:Int)+4)-1)).tdiv 4)=(((s.size+3)/4:Nat):Int):=by
  rw[aB (i:=(s.size:Int)+4) (by omega) (by omega),aB (i:=(s.size:Int)+4-1) (by omega) (by omega),Int.tdiv_eq_ediv_of_nonneg (by omega)]
  rw[aB (by omega) (by omega)];omega
 rw[←er]
 refine aN.count (ro:=none) hT B1 bF (m:=0) (id:=0) ((s.size+3)/4) (fun i m=>m.length=i) (fun i m=>ILC s m m.length i) (fun m=>XLC m m.length) (stM s) (a6 fLC 0) (a8 fLC 0) (fun i m=>[(2,⟨a6 fLC 2,JLC s m m.length i [0,0,0,0] 0,.normal,KLC s m m.length i (gV (ckL (bR s) i))⟩)]) (fun i m hi hm=>aK.blk (b:=.loop (a5 2 (a0 fLC))) (by kernel_rfl) (a6F s m m.length i hs (by omega)) aK.nil) (fun i m hi hm=>⟨by simp[stM,hm], ?_⟩) (fun m hm=> ?_) [] rfl
 ·have e:=a0G s m m.length i (gV (ckL (bR s) i))
  rw[ew,aB (i:=(i:Int)+1) (by omega) (by omega)]at e
  have e2:stM s i m=m++[gV (ckL (bR s) i)]:=rfl
  rw[e2,List.length_append]
  refine⟨_,_,⟨_,_,e, ?_,by simp⟩⟩
  simp only[iM,decide_true,rpS,decide_false,beq_self_eq_true,bne_self_eq_false,Bool.not_true,Bool.not_false,Bool.not_not,cond_true,cond_false,Bool.true_and,Bool.and_true,Bool.false_and,Bool.and_false,Bool.or_true,Bool.true_or,Bool.or_false,Bool.false_or,Bool.and_eq_true,Bool.not_eq_true',decide_eq_true_eq,decide_eq_false_iff_not,true_and,and_true];omega
 ·have e:=a0H s m m.length ((s.size+3)/4:Nat) [] []
  rw[ew]at e
  exact⟨_,_,⟨_,_,e,by simp,by simp⟩⟩
def PN:aM:=fun args h=>
 match args,h with
 |[.c (.str s)],[]=>
  some (.c (.sl 0 0 (cM (bR s)).length 1 none),[.live (.ivs .i64 (cM (bR s)))],[decide (s.size≤1048576)])
 |_,_=>none
theorem mLC:aQ Tryz.prog 142 PN:=by
 intro args h res h' o he ho
 unfold PN at he
 split at he
 case h_2=>cases he
 rename_i s
 simp only[Option.some.injEq,Prod.mk.injEq]at he
 obtain⟨rfl,rfl,rfl⟩:=he
 simp only[List.mem_cons,List.not_mem_nil,or_false,forall_eq_or_imp,forall_eq,decide_eq_true_eq]at ho
 have o1:=ho
 exact bQ B1 (a43 s (cM (bR s)) (cM (bR s)).length) (by kernel_rfl) (by kernel_rfl) (by kernel_rfl) (lLC s o1) (by simp) rfl
noncomputable def gD:List aZ:=[⟨164,[],nm PZ⟩,⟨142,[],PN⟩]++jP
theorem X3:a7 Tryz.prog gD:=by
 refine a7.append ?_ X2
 intro e he
 simp only[List.mem_cons,List.not_mem_nil,or_false]at he
 rcases he with rfl|rfl
 ·exact mS3.ok
 ·exact mLC
theorem qV:bK Tryz.prog (a9 gD):=aO X3
end
section
theorem j8 {α β:Type} {f:β→α→β} {d:α}: ∀(l:List α) (b:β),bH (fun k b=>f b (l.getD k d)) l.length 0 b=l.foldl f b:=by
 have key: ∀(l p:List α) (b:β),bH (fun k b=>f b ((p++l).getD k d)) l.length p.length b=l.foldl f b:=by
  intro l
  induction l with
  |nil=>intro p b;rfl
  |cons x l ih=>
   intro p b
   have:=ih (p++[x]) (f b x)
   rw[List.append_assoc,List.singleton_append,List.length_append]at this
   simp only[List.length_cons,bH,List.foldl_cons]
   rw[show(p++x::l).getD p.length d=x from by simp[List.getD_eq_getElem?_getD]]
   exact this
 exact fun l b=>key l [] b
theorem dA {α:Type} {l:List α} {d:α} {i:Nat} (hi:i<l.length):l.getD i d∈l:=by
 rw[List.getD_eq_getElem?_getD,List.getElem?_eq_getElem hi];exact List.getElem_mem hi
def lbJ (x:Int):Int:=IntKind.u8.wrap (IntKind.u8.wrap (IntKind.i64.wrap (x-1))+97)
def f7 (o:List Int) (x:Int):List Int:=bif bif bet x 1 26 then decide ((o.length:Int)≤14)else false then o++[lbJ x]else o
def jlI (m:List (List Int)):List Int:=m.foldl (fun o r=>r.foldl f7 o) []
theorem wL {o:List Int} (x:Int) (h:o.length≤15):(f7 o x).length≤15:=by
 unfold f7
 cases hb:bet x 1 26 with
 |false=>rw[cond_false];exact h
 |true=>
  rw[cond_true]
  cases hd:decide ((o.length:Int)≤14)with
  |false=>exact h
  |true=>have:=of_decide_eq_true hd;simp;omega
theorem vT (r:List Int): ∀ {o:List Int},o.length≤15→(r.foldl f7 o).length≤15:=by
 induction r with
 |nil=>exact fun h=>h
 |cons x r ih=>exact fun h=>ih (wL x h)
theorem MR (m:List (List Int)):(jlI m).length≤15:=by
 have: ∀(m:List (List Int)) (o:List Int),o.length≤15→(m.foldl (fun o r=>r.foldl f7 o) o).length≤15:=by
  intro m
  induction m with
  |nil=>exact fun o h=>h
  |cons r m ih=>exact fun o h=>ih _ (vT r h)
 exact this m [] (Nat.zero_le _)
theorem pS (xs:List Int):(bO xs).data.toList=xs.map fun n=>UInt8.ofNat n.toNat:=rfl
theorem l7 (s:ByteArray):s.size=s.data.toList.length:=by rw[Array.length_toList];rfl
theorem jW (xs:List Int):(bO xs).size=xs.length:=by rw[l7,pS,List.length_map]
theorem F2 {s t:ByteArray} (h:s.data.toList=t.data.toList):s=t:=by
 cases s;cases t
 simp only[ByteArray.mk.injEq]
 exact Array.ext' h
theorem p8 (zs:List Int):(cM zs).length=(zs.length+3)/4:=by unfold cM;rw[List.length_map,List.length_range]
theorem wE (zs:List Int):qQ (cM zs)=true:=by
 unfold qQ cM
 rw[List.all_eq_true]
 intro x hx
 obtain⟨k,_,rfl⟩:=List.mem_map.1 hx
 rw[iM];rfl
theorem G2 (s:ByteArray) (h:s.size≤1048576):fN (gH s)=true:=by
 unfold gH
 cases eA s with
 |false=>rfl
 |true=>
  rw[cond_true]
  simp only[fN,Bool.and_eq_true,rpS,decide_eq_true_eq,List.all_eq_true]
  rw[p8,fD]
  refine⟨by omega,fun x hx=> ?_⟩
  have:=List.all_eq_true.1 (wE (bR s)) x hx
  rw[beq_iff_eq]at this;omega
noncomputable abbrev fTJ:=Tryz.f119
noncomputable def ITJ (m:List (List Int)) (o:List Int) (n:Nat) (i:Int):St:=aR fTJ.ntmps [(0,.c (.view none (.ivs .i64 m) m.length 1 none)),(4,.c (.sl 0 0 n 1 none)),(11,.c (.view none (.ivs .i64 m) m.length 1 none)),(12,.c (.int .i64 (m.length:Int))),(13,.c (.int .i64 i))] [.live (.ints .u8 o)]
noncomputable def XTJ (m:List (List Int)) (o:List Int) (n:Nat):St:=aR fTJ.ntmps [(0,.c (.view none (.ivs .i64 m) m.length 1 none)),(4,.c (.sl 0 0 n 1 none))] [.live (.ints .u8 o)]
noncomputable def JTJ (m:List (List Int)) (r o:List Int) (n:Nat) (i k:Int):St:=aR fTJ.ntmps [(0,.c (.view none (.ivs .i64 m) m.length 1 none)),(4,.c (.sl 0 0 n 1 none)),(11,.c (.view none (.ivs .i64 m) m.length 1 none)),(12,.c (.int .i64 (m.length:Int))),(13,.c (.int .i64 i)),(17,.c (.view none (.ints .i64 r) r.length 1 none)),(18,.c (.int .i64 (r.length:Int))),(19,.c (.int .i64 k))] [.live (.ints .u8 o)]
theorem XT (m:List (List Int)) (r o:List Int) (n:Nat) (i k:Int):aC 0 (a6 fTJ 2) (a8 fTJ 2) (aD tt (a9 gD) ([]) 0 100 (a5 2 (a0 fTJ)) (JTJ m r o n i k) [(0,true),(0,true),(0,true)])=
  some (.normal,(decide (k<(↑r.length:Int))&&(decide (0≤k)&&(decide (k<(↑r.length:Int))&&(decide (k.toNat<r.length)&&(rp3 (bet (r.getD k.toNat 0) 1 26) ((bif bet (r.getD k.toNat 0) 1 26 then decide ((↑n:Int)≤14)else false)&&(decide (n=o.length)&&((decide (n+1≤274877906944))&&true)))))))),[],JTJ m r (o++[IntKind.u8.wrap (IntKind.u8.wrap (IntKind.i64.wrap (r.getD k.toNat 0-1))+97)]) (n+1) i (IntKind.i64.wrap (k+1))):=by kernel_rfl
theorem XU (m:List (List Int)) (r o:List Int) (n:Nat) (i k:Int):aC 0 (a6 fTJ 2) (a8 fTJ 2) (aD tt (a9 gD) ([]) 0 100 (a5 2 (a0 fTJ)) (JTJ m r o n i k) [(0,true),(0,true),(0,false)])=
  some (.normal,(decide (k<(↑r.length:Int))&&(decide (0≤k)&&(decide (k<(↑r.length:Int))&&(decide (k.toNat<r.length)&&(rp3 (bet (r.getD k.toNat 0) 1 26) ((!bif bet (r.getD k.toNat 0) 1 26 then decide ((↑n:Int)≤14)else false)&&true)))))),[],JTJ m r (o) (n) i (IntKind.i64.wrap (k+1))):=by kernel_rfl
theorem XV (m:List (List Int)) (r o:List Int) (n:Nat) (i k:Int):aC 0 (a6 fTJ 2) (a8 fTJ 2) (aD tt (a9 gD) ([]) 0 100 (a5 2 (a0 fTJ)) (JTJ m r o n i k) [(0,true),(0,false)])=
  some (.normal,(decide (k<(↑r.length:Int))&&(decide (0≤k)&&(decide (k<(↑r.length:Int))&&(decide (k.toNat<r.length)&&(rp3 (!bet (r.getD k.toNat 0) 1 26) ((!bet (r.getD k.toNat 0) 1 26)&&true)))))),[],JTJ m r (o) (n) i (IntKind.i64.wrap (k+1))):=by kernel_rfl
theorem XW (m:List (List Int)) (r o:List Int) (n:Nat) (i k:Int):aC 0 (a6 fTJ 2) (a8 fTJ 2) (aD tt (a9 gD) ([]) 0 100 (a5 2 (a0 fTJ)) (JTJ m r o n i k) [(0,false)])=
  some (.exit 2,((!decide (k<(↑r.length:Int)))&&true),[],ITJ m o n i):=by kernel_rfl
theorem a17 (m:List (List Int)) (o q:List Int) (n n2:Nat) (i:Int):aC 0 (a6 fTJ 0) (a8 fTJ 0) (aD tt (a9 gD) ([(2,⟨a6 fTJ 2,JTJ m (m.getD i.toNat []) o n i 0,.normal,ITJ m q n2 i⟩)]) 0 100 (a5 0 (a0 fTJ)) (ITJ m o n i) [(0,true)])=
  some (.normal,(decide (i<(↑m.length:Int))&&(decide (0≤i)&&(decide (i<(↑m.length:Int))&&((decide (i.toNat<m.length))&&true)))),[JTJ m (m.getD i.toNat []) o n i 0=JTJ m (m.getD i.toNat []) o n i 0],ITJ m (q) (n2) (IntKind.i64.wrap (i+1))):=by kernel_rfl
theorem a18 (m:List (List Int)) (o q:List Int) (n n2:Nat) (i:Int) (lcv:List (Nat×LC)):aC 0 (a6 fTJ 0) (a8 fTJ 0) (aD tt (a9 gD) (lcv) 0 100 (a5 0 (a0 fTJ)) (ITJ m o n i) [(0,false)])=
  some (.exit 0,((!decide (i<(↑m.length:Int)))&&true),[],XTJ m o n):=by kernel_rfl
theorem a4S (m:List (List Int)) (o:List Int) (n:Nat):aE tt (a9 gD) ([(0,⟨a6 fTJ 0,ITJ m [] 0 0,.normal,XTJ m o n⟩)]) 100 fTJ [.c (.view none (.ivs .i64 m) m.length 1 none)] [] [(0,true)]=
  some ⟨.tup [.c (.str {data:= #[]}),.c (.bool false)],[],(decide (n=o.length)&&(decide ((↑(bO o).size:Int)≤9223372036854775807)&&(rp5 (!eA (bO o)) ((!eA (bO o))&&true)))),[ITJ m [] 0 0=ITJ m [] 0 0]⟩:=by kernel_rfl
theorem a4T (m:List (List Int)) (o:List Int) (n:Nat):aE tt (a9 gD) ([(0,⟨a6 fTJ 0,ITJ m [] 0 0,.normal,XTJ m o n⟩)]) 100 fTJ [.c (.view none (.ivs .i64 m) m.length 1 none)] [] [(0,false),(0,true)]=
  some ⟨.tup [.c (.str {data:= #[]}),.c (.bool false)],[],(decide (n=o.length)&&(decide ((↑(bO o).size:Int)≤9223372036854775807)&&(rp2 (!!eA (bO o)) (decide ((↑(bO o).size:Int)≤9223372036854775807)&&(rp2 (!!eA (bO o)) (decide ((gH (bO o)).length=(gH (bO o)).length)&&(fN (gH (bO o))&&(!!eA (bO o)&&((bif !eA (bO o)then true else !gH (bO o)==m)&&true))))))))),[ITJ m [] 0 0=ITJ m [] 0 0]⟩:=by kernel_rfl
theorem a4U (m:List (List Int)) (o:List Int) (n:Nat):aE tt (a9 gD) ([(0,⟨a6 fTJ 0,ITJ m [] 0 0,.normal,XTJ m o n⟩)]) 100 fTJ [.c (.view none (.ivs .i64 m) m.length 1 none)] [] [(0,false),(0,false)]=
  some ⟨.tup [.c (.str (bO o)),.c (.bool true)],[],(decide (n=o.length)&&(decide ((↑(bO o).size:Int)≤9223372036854775807)&&(rp2 (!!eA (bO o)) (decide ((↑(bO o).size:Int)≤9223372036854775807)&&(rp2 (!!eA (bO o)) (decide ((gH (bO o)).length=(gH (bO o)).length)&&(fN (gH (bO o))&&(!!eA (bO o)&&((!bif !eA (bO o)then true else !gH (bO o)==m)&&true))))))))),[ITJ m [] 0 0=ITJ m [] 0 0]⟩:=by kernel_rfl
noncomputable abbrev fTK:=Tryz.f116
noncomputable def ITK (m:List (List Int)) (t:ByteArray) (i:Int):St:=aR fTK.ntmps [(0,.c (.view none (.ivs .i64 m) m.length 1 none)),(4,.c (.str t)),(5,.c (.int .i64 i))] []
noncomputable def XTK (m:List (List Int)) (t:ByteArray):St:=aR fTK.ntmps [(0,.c (.view none (.ivs .i64 m) m.length 1 none)),(4,.c (.str t))] []
noncomputable def YTK (m:List (List Int)) (t:ByteArray):St:=aR fTK.ntmps [(0,.c (.view none (.ivs .i64 m) m.length 1 none)),(2,.c (.str ⟨#[]⟩)),(3,.c (.bool false)),(4,.c (.str t))] []
noncomputable def JTK (m:List (List Int)) (t:ByteArray) (i k:Int):St:=aR fTK.ntmps [(0,.c (.view none (.ivs .i64 m) m.length 1 none)),(4,.c (.str t)),(5,.c (.int .i64 i)),(6,.c (.int .i64 k))] []
theorem XX (m:List (List Int)) (t:ByteArray) (i k:Int):aC 0 (a6 fTK 2) (a8 fTK 2) (aD tt (a9 gD) ([]) 0 100 (a5 2 (a0 fTK)) (JTK m t i k) [(0,true),(0,true)])=
  some (.normal,(decide (0≤i)&&(decide (i<(↑m.length:Int))&&(decide (i.toNat<m.length)&&(decide (k<(↑(m.getD i.toNat []).length:Int))&&(decide (0≤i)&&(decide (i<(↑m.length:Int))&&(decide (i.toNat<m.length)&&(decide (0≤k)&&(decide (k<(↑(m.getD i.toNat []).length:Int))&&(decide (k.toNat<(m.getD i.toNat []).length)&&(decide ((m.getD i.toNat []).getD k.toNat 0>0)&&(decide (0≤i)&&(decide (i<(↑m.length:Int))&&(decide (i.toNat<m.length)&&(decide (0≤k)&&(decide (k<(↑(m.getD i.toNat []).length:Int))&&(decide (k.toNat<(m.getD i.toNat []).length)&&((decide (t.size+(bO [IntKind.u8.wrap (IntKind.i64.wrap (IntKind.i64.wrap (97+(m.getD i.toNat []).getD k.toNat 0)-1))]).size≤9223372036854775807))&&true)))))))))))))))))),[],JTK m (CO t (bO [IntKind.u8.wrap (IntKind.i64.wrap (IntKind.i64.wrap (97+(m.getD i.toNat []).getD k.toNat 0)-1))])) i (IntKind.i64.wrap (k+1))):=by kernel_rfl
theorem XY (m:List (List Int)) (t:ByteArray) (i k:Int):aC 0 (a6 fTK 2) (a8 fTK 2) (aD tt (a9 gD) ([]) 0 100 (a5 2 (a0 fTK)) (JTK m t i k) [(0,true),(0,false)])=
  some (.normal,(decide (0≤i)&&(decide (i<(↑m.length:Int))&&(decide (i.toNat<m.length)&&(decide (k<(↑(m.getD i.toNat []).length:Int))&&(decide (0≤i)&&(decide (i<(↑m.length:Int))&&(decide (i.toNat<m.length)&&(decide (0≤k)&&(decide (k<(↑(m.getD i.toNat []).length:Int))&&(decide (k.toNat<(m.getD i.toNat []).length)&&((!decide ((m.getD i.toNat []).getD k.toNat 0>0))&&true))))))))))),[],JTK m (t) i (IntKind.i64.wrap (k+1))):=by kernel_rfl
theorem XZ (m:List (List Int)) (t:ByteArray) (i k:Int):aC 0 (a6 fTK 2) (a8 fTK 2) (aD tt (a9 gD) ([]) 0 100 (a5 2 (a0 fTK)) (JTK m t i k) [(0,false)])=
  some (.exit 2,(decide (0≤i)&&(decide (i<(↑m.length:Int))&&(decide (i.toNat<m.length)&&((!decide (k<(↑(m.getD i.toNat []).length:Int)))&&true)))),[],ITK m t i):=by kernel_rfl
theorem a19 (m:List (List Int)) (t q:ByteArray) (i:Int):aC 0 (a6 fTK 0) (a8 fTK 0) (aD tt (a9 gD) ([(2,⟨a6 fTK 2,JTK m t i 0,.normal,ITK m q i⟩)]) 0 100 (a5 0 (a0 fTK)) (ITK m t i) [(0,true),(0,false)])=
  some (.normal,(decide (i<(↑m.length:Int))&&(decide (0≤i)&&(decide (i<(↑m.length:Int))&&(decide (i.toNat<m.length)&&(decide ((m.getD i.toNat []).length≤274877906944)&&((!!vok (m.getD i.toNat []))&&true)))))),[JTK m t i 0=JTK m t i 0],ITK m (q) (IntKind.i64.wrap (i+1))):=by kernel_rfl
theorem a1A (m:List (List Int)) (t q:ByteArray) (i:Int) (lcv:List (Nat×LC)):aC 0 (a6 fTK 0) (a8 fTK 0) (aD tt (a9 gD) (lcv) 0 100 (a5 0 (a0 fTK)) (ITK m t i) [(0,false)])=
  some (.exit 0,((!decide (i<(↑m.length:Int)))&&true),[],XTK m t):=by kernel_rfl
theorem a4V (m:List (List Int)) (t:ByteArray) (lcv:List (Nat×LC)):aE tt (a9 gD) (lcv) 100 fTK [.c (.view none (.ivs .i64 m) m.length 1 none)] [] [(0,true)]=
  some ⟨.tup [.c (.str {data:= #[]}),.c (.bool false)],[],((decide ((↑m.length:Int)>14))&&true),[]⟩:=by kernel_rfl
theorem a4W (m:List (List Int)) (t:ByteArray):aE tt (a9 gD) ([(0,⟨a6 fTK 0,ITK m ⟨#[]⟩ 0,.normal,XTK m t⟩)]) 100 fTK [.c (.view none (.ivs .i64 m) m.length 1 none)] [] [(0,false),(0,true)]=
  some ⟨.tup [.c (.str {data:= #[]}),.c (.bool false)],[],(!decide ((↑m.length:Int)>14)&&(decide ((↑t.size:Int)≤9223372036854775807)&&(rp5 (!eA t) ((!eA t)&&true)))),[ITK m ⟨#[]⟩ 0=ITK m ⟨#[]⟩ 0]⟩:=by kernel_rfl
theorem a4X (m:List (List Int)) (t:ByteArray):aE tt (a9 gD) ([(0,⟨a6 fTK 0,ITK m ⟨#[]⟩ 0,.normal,XTK m t⟩)]) 100 fTK [.c (.view none (.ivs .i64 m) m.length 1 none)] [] [(0,false),(0,false),(0,true)]=
  some ⟨.tup [.c (.str {data:= #[]}),.c (.bool false)],[],(!decide ((↑m.length:Int)>14)&&(decide ((↑t.size:Int)≤9223372036854775807)&&(rp2 (!!eA t) (decide (t.size≤1048576)&&(rp2 (!!eA t) (decide ((cM (bR t)).length=(cM (bR t)).length)&&(decide ((cM (bR t)).length≤274877906944)&&(qQ (cM (bR t))&&(qQ m&&(!!eA t&&((bif !eA t then true else !cM (bR t)==m)&&true))))))))))),[ITK m ⟨#[]⟩ 0=ITK m ⟨#[]⟩ 0]⟩:=by kernel_rfl
theorem a4Y (m:List (List Int)) (t:ByteArray):aE tt (a9 gD) ([(0,⟨a6 fTK 0,ITK m ⟨#[]⟩ 0,.normal,XTK m t⟩)]) 100 fTK [.c (.view none (.ivs .i64 m) m.length 1 none)] [] [(0,false),(0,false),(0,false)]=
  some ⟨.tup [.c (.str t),.c (.bool true)],[],(!decide ((↑m.length:Int)>14)&&(decide ((↑t.size:Int)≤9223372036854775807)&&(rp2 (!!eA t) (decide (t.size≤1048576)&&(rp2 (!!eA t) (decide ((cM (bR t)).length=(cM (bR t)).length)&&(decide ((cM (bR t)).length≤274877906944)&&(qQ (cM (bR t))&&(qQ m&&(!!eA t&&((!bif !eA t then true else !cM (bR t)==m)&&true))))))))))),[ITK m ⟨#[]⟩ 0=ITK m ⟨#[]⟩ 0]⟩:=by kernel_rfl
theorem a5D (m:List (List Int)) (t:ByteArray):aE tt (a9 gD) ([(0,⟨a6 fTK 0,ITK m ⟨#[]⟩ 0,.ret,YTK m t⟩)]) 100 fTK [.c (.view none (.ivs .i64 m) m.length 1 none)] [] [(0,false)]=
  some ⟨.tup [.c (.str {data:= #[]}),.c (.bool false)],[],((!decide ((↑m.length:Int)>14))&&true),[ITK m ⟨#[]⟩ 0=ITK m ⟨#[]⟩ 0]⟩:=by kernel_rfl
theorem a6J (m:List (List Int)) (r:List Int) (i:Int) (o:List Int) (ho:o.length≤15) (hr:r.length≤274877906944):aN none Tryz.prog 0 (.block 2 (.loop (a5 2 (a0 fTJ)))) (JTJ m r o o.length i 0) fun e t=>e=.normal∧t=ITJ m (r.foldl f7 o) (r.foldl f7 o).length i:=by
 rw[←j8 (d:=0)]
 refine aN.count (ro:=none) hT qV bF (m:=0) (id:=2) r.length (fun _ o=>o.length≤15) (fun k o=>JTJ m r o o.length i k) (fun o=>ITJ m o o.length i) (fun k o=>f7 o (r.getD k 0)) (a6 fTJ 2) (a8 fTJ 2) (fun _ _=>[]) (fun _ _ _ _=>aK.nil) (fun k o hk ho=>⟨wL _ ho, ?_⟩) (fun o _=>⟨_,_,⟨_,_,XW m r o o.length i r.length,by simp,by simp⟩⟩) o ho
 unfold f7
 cases hb:bet (r.getD k 0) 1 26 with
 |false=>
  have e:=XV m r o o.length i k
  rw[aB (i:=(k:Int)+1) (by omega) (by omega),Int.toNat_natCast]at e
  rw[cond_false,cond_false]
  exact⟨_,_,⟨_,_,e,by simp only[hb,decide_true,rpS,decide_false,beq_self_eq_true,bne_self_eq_false,Bool.not_true,Bool.not_false,Bool.not_not,cond_true,cond_false,Bool.true_and,Bool.and_true,Bool.false_and,Bool.and_false,Bool.or_true,Bool.true_or,Bool.or_false,Bool.false_or,Bool.and_eq_true,Bool.not_eq_true',decide_eq_true_eq,decide_eq_false_iff_not,true_and,and_true];omega,by simp⟩⟩
 |true=>
  rw[cond_true]
  cases hd:decide ((o.length:Int)≤14)with
  |false=>
   have e:=XU m r o o.length i k
   rw[aB (i:=(k:Int)+1) (by omega) (by omega),Int.toNat_natCast]at e
   rw[cond_false]
   exact⟨_,_,⟨_,_,e,by simp only[hb,hd,decide_true,rpS,decide_false,beq_self_eq_true,bne_self_eq_false,Bool.not_true,Bool.not_false,Bool.not_not,cond_true,cond_false,Bool.true_and,Bool.and_true,Bool.false_and,Bool.and_false,Bool.or_true,Bool.true_or,Bool.or_false,Bool.false_or,Bool.and_eq_true,Bool.not_eq_true',decide_eq_true_eq,decide_eq_false_iff_not,true_and,and_true];omega,by simp⟩⟩
  |true=>
   have e:=XT m r o o.length i k
   rw[aB (i:=(k:Int)+1) (by omega) (by omega),Int.toNat_natCast]at e
   rw[cond_true,List.length_append]
   exact⟨_,_,⟨_,_,e,by simp only[hb,hd,decide_true,rpS,decide_false,beq_self_eq_true,bne_self_eq_false,Bool.not_true,Bool.not_false,Bool.not_not,cond_true,cond_false,Bool.true_and,Bool.and_true,Bool.false_and,Bool.and_false,Bool.or_true,Bool.true_or,Bool.or_false,Bool.false_or,Bool.and_eq_true,Bool.not_eq_true',decide_eq_true_eq,decide_eq_false_iff_not,true_and,and_true];omega,by simp⟩⟩
theorem lTJ (m:List (List Int)) (hn:m.length≤274877906944) (hr: ∀x∈m,x.length≤274877906944):aN none Tryz.prog 0 (.block 0 (.loop (a5 0 (a0 fTJ)))) (ITJ m [] 0 0) fun e t=>e=.normal∧t=XTJ m (jlI m) (jlI m).length:=by
 unfold jlI
 rw[←j8 (d:=[])]
 refine aN.count (ro:=none) hT qV bF (m:=0) (id:=0) m.length (fun _ o=>o.length≤15) (fun i o=>ITJ m o o.length i) (fun o=>XTJ m o o.length) (fun i o=>(m.getD i []).foldl f7 o) (a6 fTJ 0) (a8 fTJ 0) (fun i o=>[(2,⟨a6 fTJ 2,JTJ m (m.getD i []) o o.length i 0,.normal,ITJ m ((m.getD i []).foldl f7 o) ((m.getD i []).foldl f7 o).length i⟩)]) (fun i o hi ho=>aK.blk (b:=.loop (a5 2 (a0 fTJ))) (by kernel_rfl) (a6J m (m.getD i []) i o ho (hr _ (dA hi))) aK.nil) (fun i o hi ho=>⟨vT _ ho, ?_⟩) (fun o _=>⟨_,_,⟨_,_,a18 m o [] o.length 0 m.length [],by simp,by simp⟩⟩) [] (Nat.zero_le _)
 have e:=a17 m o ((m.getD i []).foldl f7 o) o.length ((m.getD i []).foldl f7 o).length i
 rw[aB (i:=(i:Int)+1) (by omega) (by omega),Int.toNat_natCast]at e
 exact⟨_,_,⟨_,_,e,by simp only[decide_true,rpS,decide_false,beq_self_eq_true,bne_self_eq_false,Bool.not_true,Bool.not_false,Bool.not_not,cond_true,cond_false,Bool.true_and,Bool.and_true,Bool.false_and,Bool.and_false,Bool.or_true,Bool.true_or,Bool.or_false,Bool.false_or,Bool.and_eq_true,Bool.not_eq_true',decide_eq_true_eq,decide_eq_false_iff_not,true_and,and_true];omega,by simp⟩⟩
def jtB (m:List (List Int)):Bool:=eA (bO (jlI m))&&(gH (bO (jlI m))==m)
def Q5:aM:=fun args h=>
 match args,h with
 |[.c (.view _ (.ivs .i64 m) n1 1 _)],[]=>
  some (.tup [.c (.str (bif jtB m then bO (jlI m)else⟨#[]⟩)),.c (.bool (jtB m))],[],[fN m])
 |_,_=>none
theorem mTJ:aS Tryz.prog 119 Q5:=by
 intro args h res h' o hnorm he ho
 unfold Q5 at he
 split at he
 case h_2=>cases he
 rename_i nl m n1 cap
 simp only[Option.some.injEq,Prod.mk.injEq]at he
 obtain⟨rfl,rfl,rfl⟩:=he
 simp only[List.mem_cons,List.not_mem_nil,or_false,forall_eq_or_imp,forall_eq,decide_eq_true_eq]at ho
 have o1:=ho
 simp only[b8,AV.norm,bA,aF.norm,Con.size,List.cons.injEq,AV.c.injEq,AV.agg.injEq,aF.view.injEq,aL,true_and,and_true]at hnorm
 obtain⟨rfl,rfl,rfl⟩:=hnorm
 obtain⟨o1,hr⟩:=kJ o1
 have g:=lTJ m o1 hr
 have hl:=MR m
 have hz:=jW (jlI m)
 have hz1:decide (((bO (jlI m)).size:Int)≤9223372036854775807)=true:=decide_eq_true (by omega)
 have hz2:=G2 (bO (jlI m)) (by omega)
 unfold jtB
 cases h1:eA (bO (jlI m))with
 |false=>exact bQ qV (a4S m (jlI m) (jlI m).length) (by kernel_rfl) (by kernel_rfl) (by kernel_rfl) g (by simp) (by simp only[h1,hz1,decide_true,rpS,decide_false,beq_self_eq_true,bne_self_eq_false,Bool.not_true,Bool.not_false,Bool.not_not,cond_true,cond_false,Bool.true_and,Bool.and_true,Bool.false_and,Bool.and_false,Bool.or_true,Bool.true_or,Bool.or_false,Bool.false_or,Bool.and_eq_true,Bool.not_eq_true',decide_eq_true_eq,decide_eq_false_iff_not,true_and,and_true])
 |true=>
  cases h2:gH (bO (jlI m))==m with
  |false=>exact bQ qV (a4T m (jlI m) (jlI m).length) (by kernel_rfl) (by kernel_rfl) (by kernel_rfl) g (by simp) (by simp only[h1,h2,hz1,hz2,decide_true,rpS,decide_false,beq_self_eq_true,bne_self_eq_false,Bool.not_true,Bool.not_false,Bool.not_not,cond_true,cond_false,Bool.true_and,Bool.and_true,Bool.false_and,Bool.and_false,Bool.or_true,Bool.true_or,Bool.or_false,Bool.false_or,Bool.and_eq_true,Bool.not_eq_true',decide_eq_true_eq,decide_eq_false_iff_not,true_and,and_true])
  |true=>exact bQ qV (a4U m (jlI m) (jlI m).length) (by kernel_rfl) (by kernel_rfl) (by kernel_rfl) g (by simp) (by simp only[h1,h2,hz1,hz2,decide_true,rpS,decide_false,beq_self_eq_true,bne_self_eq_false,Bool.not_true,Bool.not_false,Bool.not_not,cond_true,cond_false,Bool.true_and,Bool.and_true,Bool.false_and,Bool.and_false,Bool.or_true,Bool.true_or,Bool.or_false,Bool.false_or,Bool.and_eq_true,Bool.not_eq_true',decide_eq_true_eq,decide_eq_false_iff_not,true_and,and_true])
def lbK (x:Int):Int:=IntKind.u8.wrap (IntKind.i64.wrap (IntKind.i64.wrap (97+x)-1))
def dY (t:ByteArray) (x:Int):ByteArray:=bif decide (x>0)then CO t (bO [lbK x])else t
def jkT (m:List (List Int)):ByteArray:=m.foldl (fun t r=>r.foldl dY t) ⟨#[]⟩
theorem J1 (s t:ByteArray):(CO s t).size=s.size+t.size:=by
 rw[l7,l7,l7];simp[CO]
theorem uB (t:ByteArray) (x:Int):(dY t x).size≤t.size+1:=by
 unfold dY
 cases decide (x>0)with
 |false=>rw[cond_false];omega
 |true=>rw[cond_true,J1,jW];simp
theorem sU (r:List Int): ∀(t:ByteArray),(r.foldl dY t).size≤t.size+r.length:=by
 induction r with
 |nil=>intro t;simp
 |cons x r ih=>
  intro t
  have h1:=ih (dY t x)
  have h2:=uB t x
  rw[List.foldl_cons,List.length_cons];omega
theorem rK {r:List Int} (h:vok r=true):r.length=4:=by
 unfold vok at h
 rw[Bool.and_eq_true]at h
 have:=of_decide_eq_true h.2;omega
theorem a6K (m:List (List Int)) (i:Nat) (hi:i<m.length) (hm:m.length≤1024) (t:ByteArray) (ht:t.size≤4*i) (hr:(m.getD i []).length=4):aN none Tryz.prog 0 (.block 2 (.loop (a5 2 (a0 fTK)))) (JTK m t i 0) fun e s=>e=.normal∧s=ITK m ((m.getD i []).foldl dY t) i:=by
 rw[←j8 (d:=0)]
 refine aN.count (ro:=none) hT qV bF (m:=0) (id:=2) (m.getD i []).length (fun k t=>t.size≤4*i+k) (fun k t=>JTK m t i k) (fun t=>ITK m t i) (fun k t=>dY t ((m.getD i []).getD k 0)) (a6 fTK 2) (a8 fTK 2) (fun _ _=>[]) (fun _ _ _ _=>aK.nil) (fun k t hk ht=>⟨by have:=uB t ((m.getD i []).getD k 0);omega, ?_⟩) (fun t _=> ?_) t ht
 ·unfold dY
  cases hb:decide ((m.getD i []).getD k 0>0)with
  |false=>
   have e:=XY m t i k
   rw[aB (i:=(k:Int)+1) (by omega) (by omega),Int.toNat_natCast,Int.toNat_natCast]at e
   rw[cond_false]
   exact⟨_,_,⟨_,_,e,by simp only[hb,decide_true,rpS,decide_false,beq_self_eq_true,bne_self_eq_false,Bool.not_true,Bool.not_false,Bool.not_not,cond_true,cond_false,Bool.true_and,Bool.and_true,Bool.false_and,Bool.and_false,Bool.or_true,Bool.true_or,Bool.or_false,Bool.false_or,Bool.and_eq_true,Bool.not_eq_true',decide_eq_true_eq,decide_eq_false_iff_not,true_and,and_true];omega,by simp⟩⟩
  |true=>
   have e:=XX m t i k
   rw[aB (i:=(k:Int)+1) (by omega) (by omega),Int.toNat_natCast,Int.toNat_natCast]at e
   rw[cond_true]
   refine⟨_,_,⟨_,_,e, ?_,by simp⟩⟩
   have hz:=jW [lbK ((m.getD i []).getD k 0)]
   unfold lbK at hz
   rw[hz]
   simp only[hb,List.length_cons,List.length_nil,decide_true,rpS,decide_false,beq_self_eq_true,bne_self_eq_false,Bool.not_true,Bool.not_false,Bool.not_not,cond_true,cond_false,Bool.true_and,Bool.and_true,Bool.false_and,Bool.and_false,Bool.or_true,Bool.true_or,Bool.or_false,Bool.false_or,Bool.and_eq_true,Bool.not_eq_true',decide_eq_true_eq,decide_eq_false_iff_not,true_and,and_true];omega
 ·have e:=XZ m t i (m.getD i []).length
  rw[Int.toNat_natCast]at e
  exact⟨_,_,⟨_,_,e,by simp;omega,by simp⟩⟩
theorem sTK (m:List (List Int)) (t:ByteArray) (i:Int):aC 0 (a6 fTK 0) (a8 fTK 0) (aD tt (a9 gD) [] 0 100 (a5 0 (a0 fTK)) (ITK m t i) [(0,true),(0,true)])=
  some (.ret,(decide (i<(m.length:Int))&&(decide (0≤i)&&(decide (i<(m.length:Int))&&(decide (i.toNat<m.length)&&(decide ((m.getD i.toNat []).length≤274877906944)&&((!vok (m.getD i.toNat []))&&true)))))),[],YTK m t):=by kernel_rfl
theorem lTK (m:List (List Int)) (hm:m.length≤14) (hr: ∀x∈m,x.length≤274877906944):(m.all vok=true→aN none Tryz.prog 0 (.block 0 (.loop (a5 0 (a0 fTK)))) (ITK m ⟨#[]⟩ 0) fun e s=>e=.normal∧s=XTK m (jkT m))∧
  (m.all vok=false→ ∃t,aN none Tryz.prog 0 (.block 0 (.loop (a5 0 (a0 fTK)))) (ITK m ⟨#[]⟩ 0) fun e s=>e=.ret∧s=YTK m t):=by
 have g:=aN.countE (ro:=none) hT qV bF (m:=0) (id:=0) (body:=a5 0 (a0 fTK)) (β:=ByteArray) (γ:=ByteArray) m.length (fun i t=>t.size≤4*i) (fun i t=>ITK m t i) (fun t=>XTK m t) (fun t=>YTK m t) .ret (.inr rfl)
  (fun i t=>bif vok (m.getD i [])then .inl ((m.getD i []).foldl dY t)else .inr t) (a6 fTK 0) (a8 fTK 0) (fun i t=>bif vok (m.getD i [])then [(2,⟨a6 fTK 2,JTK m t i 0,.normal,ITK m ((m.getD i []).foldl dY t) i⟩)]else []) (fun i t hi ht=> ?_) (fun i t hi ht=> ?_) (fun t _=>⟨_,_,⟨_,_,a1A m t ⟨#[]⟩ m.length [],by simp,by simp⟩⟩) ⟨#[]⟩ (Nat.zero_le _)
 ·have run: ∀f i t,i+f=m.length→(match cD (β:=ByteArray) (γ:=ByteArray) (fun i t=>bif vok (m.getD i [])then .inl ((m.getD i []).foldl dY t)else .inr t) f i t with
   |.inl b=>(∀j,i≤j→j<i+f→vok (m.getD j [])=true)∧b=bH (fun i t=>(m.getD i []).foldl dY t) f i t
   |.inr _=> ∃j,i≤j∧j<i+f∧vok (m.getD j [])=false):=by
   intro f
   induction f with
   |zero=>intro i t _;exact⟨fun j h1 h2=>by omega,rfl⟩
   |succ f ih=>
    intro i t hf
    simp only[cD,bH]
    cases hv:vok (m.getD i [])with
    |false=>exact⟨i,Nat.le_refl _,by omega,hv⟩
    |true=>
     simp only[cond_true]
     have:=ih (i+1) ((m.getD i []).foldl dY t) (by omega)
     split<;>rename_i hq<;>rw[hq]at this
     ·exact⟨fun j h1 h2=>by
       by_cases e:j=i
       ·subst e;exact hv
       ·exact this.1 j (by omega) (by omega),this.2⟩
     ·obtain⟨j,h1,h2,h3⟩:=this
      exact⟨j,by omega,by omega,h3⟩
  have hrun:=run m.length 0 ⟨#[]⟩ (by omega)
  refine⟨fun ha=> ?_,fun ha=> ?_⟩
  ·have hall:=List.all_eq_true.1 ha
   split at hrun<;>rename_i hq<;>rw[hq]at g
   ·have e:bH (fun i t=>(m.getD i []).foldl dY t) m.length 0 ⟨#[]⟩=jkT m:=j8 (f:=fun(t:ByteArray) (r:List Int)=>r.foldl dY t) m ⟨#[]⟩
    rw[hrun.2,e]at g;exact g
   ·obtain⟨j,_,h2,h3⟩:=hrun
    rw[hall _ (dA (by omega))]at h3;cases h3
  ·split at hrun<;>rename_i hq<;>rw[hq]at g
   ·exfalso
    have:m.all vok=true:=List.all_eq_true.2 fun x hx=>by
     obtain⟨j,hj,rfl⟩:=List.getElem_of_mem hx
     have:=hrun.1 j (Nat.zero_le _) (by omega)
     rwa[List.getD_eq_getElem?_getD,List.getElem?_eq_getElem hj]at this
    rw[ha]at this;cases this
   ·exact⟨_,g⟩
 ·cases hv:vok (m.getD i [])with
  |false=>exact aK.nil
  |true=>exact aK.blk (b:=.loop (a5 2 (a0 fTK))) (by kernel_rfl) (a6K m i hi (by omega) t ht (rK hv)) aK.nil
 ·have hl:decide ((m.getD i []).length≤274877906944)=true:=decide_eq_true (hr _ (dA hi))
  cases hv:vok (m.getD i [])with
  |false=>
   have e:=sTK m t i
   rw[Int.toNat_natCast]at e
   exact .inr ⟨t,rfl,_,_,⟨_,_,e,by simp only[hv,hl,decide_true,rpS,decide_false,beq_self_eq_true,bne_self_eq_false,Bool.not_true,Bool.not_false,Bool.not_not,cond_true,cond_false,Bool.true_and,Bool.and_true,Bool.false_and,Bool.and_false,Bool.or_true,Bool.true_or,Bool.or_false,Bool.false_or,Bool.and_eq_true,Bool.not_eq_true',decide_eq_true_eq,decide_eq_false_iff_not,true_and,and_true];omega,by simp⟩⟩
  |true=>
   have e:=a19 m t ((m.getD i []).foldl dY t) i
   rw[aB (i:=(i:Int)+1) (by omega) (by omega),Int.toNat_natCast]at e
   have hs:=sU (m.getD i []) t
   have:=rK hv
   exact .inl ⟨_,rfl,by omega,_,_,⟨_,_,e,by simp only[hv,hl,decide_true,rpS,decide_false,beq_self_eq_true,bne_self_eq_false,Bool.not_true,Bool.not_false,Bool.not_not,cond_true,cond_false,Bool.true_and,Bool.and_true,Bool.false_and,Bool.and_false,Bool.or_true,Bool.true_or,Bool.or_false,Bool.false_or,Bool.and_eq_true,Bool.not_eq_true',decide_eq_true_eq,decide_eq_false_iff_not,true_and,and_true];omega,by simp⟩⟩
def jkB (m:List (List Int)):Bool:= !(decide ((m.length:Int)>14))&&(m.all vok&&(eA (jkT m)&&(cM (bR (jkT m))==m)))
theorem JR (m:List (List Int)) (h:m.all vok=true):(jkT m).size≤4*m.length:=by
 have: ∀(m:List (List Int)) (t:ByteArray),m.all vok=true→(m.foldl (fun t r=>r.foldl dY t) t).size≤t.size+4*m.length:=by
  intro m
  induction m with
  |nil=>intro t _;simp
  |cons r m ih=>
   intro t ha
   rw[List.all_cons,Bool.and_eq_true]at ha
   have h1:=ih (r.foldl dY t) ha.2
   have h2:=sU r t
   have h3:=rK ha.1
   rw[List.foldl_cons,List.length_cons];omega
 have:=this m ⟨#[]⟩ h
 have e:(⟨#[]⟩:ByteArray).size=0:=rfl
 unfold jkT;omega
def Q6:aM:=fun args h=>
 match args,h with
 |[.c (.view _ (.ivs .i64 m) n1 1 _)],[]=>
  some (.tup [.c (.str (bif jkB m then jkT m else⟨#[]⟩)),.c (.bool (jkB m))],[],[fN m])
 |_,_=>none
theorem mTK:aS Tryz.prog 116 Q6:=by
 intro args h res h' o hnorm he ho
 unfold Q6 at he
 split at he
 case h_2=>cases he
 rename_i nl m n1 cap
 simp only[Option.some.injEq,Prod.mk.injEq]at he
 obtain⟨rfl,rfl,rfl⟩:=he
 simp only[List.mem_cons,List.not_mem_nil,or_false,forall_eq_or_imp,forall_eq,decide_eq_true_eq]at ho
 have o1:=ho
 simp only[b8,AV.norm,bA,aF.norm,Con.size,List.cons.injEq,AV.c.injEq,AV.agg.injEq,aF.view.injEq,aL,true_and,and_true]at hnorm
 obtain⟨rfl,rfl,rfl⟩:=hnorm
 obtain⟨o1,hr⟩:=kJ o1
 unfold jkB
 cases h0:decide ((m.length:Int)>14)with
 |true=>exact cF qV (a4V m ⟨#[]⟩ []) (by kernel_rfl) (by kernel_rfl) rfl (by rw[h0];rfl)
 |false=>
  obtain⟨ga,gb⟩:=lTK m (by have:=of_decide_eq_false h0;omega) hr
  cases ha:m.all vok with
  |false=>
   obtain⟨t,g⟩:=gb ha
   exact bQ qV (a5D m t) (by kernel_rfl) (by kernel_rfl) (by kernel_rfl) g (by simp) (by rw[h0];rfl)
  |true=>
   have g:=ga ha
   have hz:=JR m ha
   have hz1:decide (((jkT m).size:Int)≤9223372036854775807)=true:=decide_eq_true (by have:=of_decide_eq_false h0;omega)
   have hz2:decide ((jkT m).size≤1048576)=true:=decide_eq_true (by have:=of_decide_eq_false h0;omega)
   have hz3:decide ((cM (bR (jkT m))).length≤274877906944)=true:=decide_eq_true (by rw[p8,fD];have:=of_decide_eq_false h0;omega)
   have hz4:=wE (bR (jkT m))
   have hz5:qQ m=true:=List.all_eq_true.2 fun x hx=>by have:=rK (List.all_eq_true.1 ha x hx);rw[this];rfl
   cases h1:eA (jkT m)with
   |false=>exact bQ qV (a4W m (jkT m)) (by kernel_rfl) (by kernel_rfl) (by kernel_rfl) g (by simp) (by simp only[h0,h1,hz1,decide_true,rpS,decide_false,beq_self_eq_true,bne_self_eq_false,Bool.not_true,Bool.not_false,Bool.not_not,cond_true,cond_false,Bool.true_and,Bool.and_true,Bool.false_and,Bool.and_false,Bool.or_true,Bool.true_or,Bool.or_false,Bool.false_or,Bool.and_eq_true,Bool.not_eq_true',decide_eq_true_eq,decide_eq_false_iff_not,true_and,and_true])
   |true=>
    cases h2:cM (bR (jkT m))==m with
    |false=>exact bQ qV (a4X m (jkT m)) (by kernel_rfl) (by kernel_rfl) (by kernel_rfl) g (by simp) (by simp only[h0,h1,h2,hz1,hz2,hz3,hz4,hz5,decide_true,rpS,decide_false,beq_self_eq_true,bne_self_eq_false,Bool.not_true,Bool.not_false,Bool.not_not,cond_true,cond_false,Bool.true_and,Bool.and_true,Bool.false_and,Bool.and_false,Bool.or_true,Bool.true_or,Bool.or_false,Bool.false_or,Bool.and_eq_true,Bool.not_eq_true',decide_eq_true_eq,decide_eq_false_iff_not,true_and,and_true])
    |true=>exact bQ qV (a4Y m (jkT m)) (by kernel_rfl) (by kernel_rfl) (by kernel_rfl) g (by simp) (by simp only[h0,h1,h2,hz1,hz2,hz3,hz4,hz5,decide_true,rpS,decide_false,beq_self_eq_true,bne_self_eq_false,Bool.not_true,Bool.not_false,Bool.not_not,cond_true,cond_false,Bool.true_and,Bool.and_true,Bool.false_and,Bool.and_false,Bool.or_true,Bool.true_or,Bool.or_false,Bool.false_or,Bool.and_eq_true,Bool.not_eq_true',decide_eq_true_eq,decide_eq_false_iff_not,true_and,and_true])
noncomputable def WS:List aZ:=[⟨119,[],nm Q5⟩,⟨116,[],nm Q6⟩]++gD
theorem a5L:a7 Tryz.prog WS:=by
 refine a7.append ?_ X3
 intro e he
 simp only[List.mem_cons,List.not_mem_nil,or_false]at he
 rcases he with rfl|rfl
 ·exact mTJ.ok
 ·exact mTK.ok
end
section
theorem rL {i:Int} (h0:0≤i) (h1:i<256):IntKind.u8.wrap i=i:=by
 simp[IntKind.wrap,IntKind.bits,IntKind.signed]
 omega
theorem y6 {z:Int} (h:97≤z∧z≤122):p5 z=z-96:=by
 unfold p5
 rw[rL (by omega) (by omega),aB (i:=z-97) (by omega) (by omega),aB (by omega) (by omega)];omega
theorem G3 {o:List Int} {z:Int} (h:97≤z∧z≤122) (ho:o.length≤14):f7 o (p5 z)=o++[z]:=by
 have hb:bet (z-96) 1 26=true:=bN.2 (by omega)
 unfold f7 lbJ
 rw[y6 h,hb,cond_true,decide_eq_true (by omega:(o.length:Int)≤14),cond_true,aB (by omega) (by omega),rL (i:=z-96-1) (by omega) (by omega),rL (by omega) (by omega)]
 congr 2;omega
theorem DG (o:List Int):f7 o 0=o:=rfl
theorem DH (t:ByteArray):dY t 0=t:=rfl
theorem KT (s t:ByteArray):bR (CO s t)=bR s++bR t:=by simp[bR,CO]
theorem uD {xs:List Int} (h: ∀x∈xs,0≤x∧x<256):bR (bO xs)=xs:=by
 unfold bR
 rw[pS,List.map_map]
 conv=>rhs;rw[←List.map_id xs]
 refine List.map_congr_left fun x hx=> ?_
 obtain⟨h1,h2⟩:=h x hx
 show(((UInt8.ofNat x.toNat).toNat:Nat):Int)=x
 rw[UInt8.toNat_ofNat']
 omega
theorem AZ {s t:ByteArray} (h:bR s=bR t):s=t:=by
 refine F2 ((List.map_inj_right fun a b hab=> ?_).1 h)
 have:a.toNat=b.toNat:=by exact_mod_cast hab
 exact UInt8.toNat_inj.1 this
theorem OE (s:ByteArray): ∀x∈bR s,0≤x∧x<256:=fun x hx=>by
 obtain⟨b,_,rfl⟩:=List.mem_map.1 hx
 have:=b.toNat_lt
 omega
theorem G4 {t:ByteArray} {z:Int} (h:97≤z∧z≤122):bR (dY t (p5 z))=bR t++[z]:=by
 unfold dY lbK
 rw[y6 h,decide_eq_true (by omega:z-96>0),cond_true,KT,aB (i:=97+(z-96)) (by omega) (by omega),aB (by omega) (by omega),rL (by omega) (by omega),uD]
 ·congr 2;omega
 ·intro x hx
  rw[List.mem_singleton]at hx;omega
def Lts (zs:List Int):Prop:= ∀z∈zs,97≤z∧z≤122
theorem OJ {t:ByteArray} (h:eA t=true):Lts (bR t)∧1≤(bR t).length∧(bR t).length≤14:=by
 unfold eA at h
 rw[Bool.and_eq_true,cC,bN]at h
 rw[fD]
 refine⟨fun z hz=> ?_,by omega,by omega⟩
 obtain⟨i,hi,rfl⟩:=List.getElem_of_mem hz
 have h1:=(y4 t i).1 (h.1 i (Nat.zero_le _) (by rw[fD]at hi;omega))
 have h2:=AY t i
 rw[List.getD_eq_getElem?_getD,List.getElem?_eq_getElem hi,Option.getD_some]at h2
 rw[h2];exact h1
theorem yC {ck:List Int} (h:ck.length≤4):gV ck=ck.map p5++List.replicate (4-ck.length) 0:=by
 obtain⟨b1,b2⟩:=yD (fun _=>true) (fun k=>p5 (ck.getD k 0)) ck.length h
 refine sO (d:=0) (by rw[iM];simp;omega) fun q hq=> ?_
 rw[iM]at hq
 refine(b2 q hq).trans ?_
 rw[List.getD_eq_getElem?_getD (l:=ck.map p5++_),List.getElem?_append,List.length_map]
 by_cases e:q<ck.length
 ·rw[if_pos e,List.getElem?_map,List.getElem?_eq_getElem e];simp[e]
 ·rw[if_neg e,List.getElem?_replicate];simp[e];split<;>rfl
theorem vU: ∀ {zs:List Int} {o:List Int},Lts zs→o.length+zs.length≤15→(zs.map p5).foldl f7 o=o++zs
 |[],o,_,_=>by simp
 |z::zs,o,h,hl=>by
  simp only[List.length_cons]at hl
  rw[List.map_cons,List.foldl_cons,G3 (h z List.mem_cons_self) (by omega),vU (fun y hy=>h y (List.mem_cons_of_mem _ hy)) (by simp;omega)]
  simp
theorem vV: ∀ {zs:List Int} {t:ByteArray},Lts zs→bR ((zs.map p5).foldl dY t)=bR t++zs
 |[],t,_=>by simp
 |z::zs,t,h=>by
  rw[List.map_cons,List.foldl_cons,vV (fun y hy=>h y (List.mem_cons_of_mem _ hy)),G4 (h z List.mem_cons_self)]
  simp
theorem sS (o:List Int): ∀n,(List.replicate n 0).foldl f7 o=o
 |0=>rfl
 |n+1=>by rw[List.replicate_succ,List.foldl_cons,DG,sS o n]
theorem sV (t:ByteArray): ∀n,(List.replicate n 0).foldl dY t=t
 |0=>rfl
 |n+1=>by rw[List.replicate_succ,List.foldl_cons,DH,sV t n]
theorem xR {zs:List Int} (h:Lts zs) (k:Nat):Lts (ckL zs k):=fun z hz=>h z (List.mem_of_mem_drop (List.mem_of_mem_take hz))
theorem CQ (zs:List Int) (k:Nat):(ckL zs k).length≤4:=by rw[r7];omega
theorem yH (zs:List Int) (k:Nat):zs.take (4*k)++ckL zs k=zs.take (4*(k+1)):=by
 unfold ckL
 rw[show 4*(k+1)=4*k+4 from by omega,List.take_add]
theorem sR {zs:List Int} (h:Lts zs) (hl:zs.length≤14): ∀K,(List.range K).foldl (fun o k=>(gV (ckL zs k)).foldl f7 o) []=zs.take (4*K)
 |0=>by simp
 |K+1=>by
  rw[List.range_succ,List.foldl_append,sR h hl K,List.foldl_cons,List.foldl_nil,yC (CQ zs K),List.foldl_append,vU (xR h K),sS,yH]
  have h1:=congrArg List.length (yH zs K)
  rw[List.length_append]at h1
  have h2:(zs.take (4*(K+1))).length≤zs.length:=by rw[List.length_take];omega
  omega
theorem sT {zs:List Int} (h:Lts zs): ∀K,bR ((List.range K).foldl (fun t k=>(gV (ckL zs k)).foldl dY t) ⟨#[]⟩)=zs.take (4*K)
 |0=>by simp[bR]
 |K+1=>by
  rw[List.range_succ,List.foldl_append,List.foldl_cons,List.foldl_nil,yC (CQ zs K),List.foldl_append,sV,vV (xR h K),sT h K,yH]
theorem KI {ck:List Int} (h:Lts ck) (hl:ck.length≤4):vok (gV ck)=true:=by
 unfold vok
 rw[Bool.and_eq_true,iM]
 refine⟨?_,rfl⟩
 unfold aA
 rw[yC hl,List.all_eq_true]
 intro x hx
 rcases List.mem_append.1 hx with hx|hx
 ·obtain⟨z,hz,rfl⟩:=List.mem_map.1 hx
  have:=h z hz
  rw[y6 this]
  simp only[fok,Bool.and_eq_true,rpS,decide_eq_true_eq];omega
 ·rw[List.eq_of_mem_replicate hx];rfl
theorem zM {t:ByteArray} (h:eA t=true):gH t=cM (bR t)∧bO (jlI (gH t))=t∧jkT (gH t)=t∧(gH t).all vok=true∧(gH t).length≤14:=by
 obtain⟨h1,h2,h3⟩:=OJ h
 have hc:gH t=cM (bR t):=by unfold gH;rw[h];rfl
 have ht:(bR t).take (4*(((bR t).length+3)/4))=bR t:=List.take_of_length_le (by omega)
 rw[hc]
 refine⟨rfl, ?_, ?_, ?_, ?_⟩
 ·have:jlI (cM (bR t))=bR t:=by
   unfold jlI cM
   rw[List.foldl_map,sR h1 h3,ht]
  rw[this]
  exact AZ (uD (OE t))
 ·refine AZ ?_
  unfold jkT cM
  rw[List.foldl_map,sT h1,ht]
 ·unfold cM
  rw[List.all_eq_true]
  intro x hx
  obtain⟨k,_,rfl⟩:=List.mem_map.1 hx
  exact KI (xR h1 k) (CQ _ k)
 ·rw[p8];omega
theorem MS (m:List (List Int)):jtB m=jkB m∧(jtB m=true→bO (jlI m)=jkT m):=by
 have k1:jtB m=true→jkB m=true∧bO (jlI m)=jkT m:=fun h=>by
  unfold jtB at h
  rw[Bool.and_eq_true,beq_iff_eq]at h
  obtain⟨h1,h2⟩:=h
  obtain⟨c1,c2,c3,c4,c5⟩:=zM h1
  rw[h2]at c1 c2 c3 c4 c5
  refine⟨?_,c3.symm⟩
  unfold jkB
  rw[c3,c4,h1,decide_eq_false (by omega)]
  simpa using c1.symm
 have k2:jkB m=true→jtB m=true:=fun h=>by
  unfold jkB at h
  simp only[Bool.and_eq_true,rpS,beq_iff_eq]at h
  obtain⟨h1,h2,h3,h4⟩:=h
  obtain⟨c1,c2,c3,c4,c5⟩:=zM h3
  have c1:gH (jkT m)=m:=c1.trans h4
  rw[c1]at c2
  unfold jtB
  rw[c2,h3,c1]
  simp
 refine⟨?_,fun h=>(k1 h).2⟩
 rw[Bool.eq_iff_iff]
 exact⟨fun h=>(k1 h).1,k2⟩
end
section
def PK.rD (x:PK):List Int:=krD x.k x.a x.b x.c x.on x.kd x.d x.vs
def PK.rB (x:PK):Bool:=krB x.k x.a x.b x.c x.on x.kd x.d x.vs
theorem PK.kok {x:PK} (h:x.ok=true):bB x.k x.a x.b x.c x.on x.kd x.d x.vs=true:=h
theorem a0B {x:PK} (h:x.ok=true):x.rB=true:=by
 unfold PK.rB krB
 rw[x.kok h,cond_true]
 cases ho:x.on with
 |true=>rfl
 |false=>rw[cond_false];exact(x.offK h ho).rd
theorem TP {x:PK} (h:x.ok=true) (ho:x.on=false):x.rD=rdD x.k x.a x.b x.c:=by
 unfold PK.rD krD
 rw[x.kok h,cond_true,ho,cond_false]
end
section
theorem zB {α:Type} {p:α→Bool} {d:α} {l:List α}:cH (fun i=>p (l.getD i d)) l.length 0=l.all p:=by
 rw[Bool.eq_iff_iff,cC,List.all_eq_true]
 constructor
 ·intro h x hx
  obtain⟨i,hi,rfl⟩:=List.getElem_of_mem hx
  have:=h i (Nat.zero_le _) (by omega)
  rwa[List.getD_eq_getElem?_getD,List.getElem?_eq_getElem hi]at this
 ·exact fun h i _ hi=>h _ (dA (by omega))
theorem KN {α β:Type} {p:α→Bool} {g:α→β} {d:α} (l:List α):match cD (β:=List β) (γ:=List β) (fun i o=>bif p (l.getD i d)then .inl (o++[g (l.getD i d)])else .inr o) l.length 0 []with
  |.inl o=>l.all p=true∧o=l.map g
  |.inr o=>l.all p=false:=by
 have key: ∀f i o,i+f=l.length→(∀j,j<i→p (l.getD j d)=true)→o=(l.take i).map g→match cD (β:=List β) (γ:=List β) (fun i o=>bif p (l.getD i d)then .inl (o++[g (l.getD i d)])else .inr o) f i o with
   |.inl o=>(∀j,j<l.length→p (l.getD j d)=true)∧o=l.map g
   |.inr o=> ∃j,j<l.length∧p (l.getD j d)=false:=by
  intro f
  induction f with
  |zero=>
   intro i o h1 h2 h3
   exact⟨fun j hj=>h2 j (by omega),by rw[h3,List.take_of_length_le (by omega)]⟩
  |succ f ih=>
   intro i o h1 h2 h3
   simp only[cD]
   cases hp:p (l.getD i d)with
   |false=>exact⟨i,by omega,hp⟩
   |true=>
    refine ih (i+1) _ (by omega) (fun j hj=> ?_) ?_
    ·by_cases e:j=i
     ·rw[e];exact hp
     ·exact h2 j (by omega)
    ·rw[h3,List.take_add_one,List.map_append,List.getElem?_eq_getElem (by omega),List.getD_eq_getElem?_getD,List.getElem?_eq_getElem (by omega)];rfl
 have:=key l.length 0 [] (by omega) (fun j hj=>by omega) rfl
 split at this
 ·refine⟨?_,this.2⟩
  rw[←zB (d:=d),cC]
  exact fun i _ hi=>this.1 i (by omega)
 ·obtain⟨j,h1,h2⟩:=this
  cases ha:l.all p with
  |false=>rfl
  |true=>rw[List.all_eq_true.1 ha _ (dA h1)]at h2;cases h2
def okR (x:PK):Bool:=x.ok&& !x.on
theorem RR (x:PK):(x.rB&& !x.on)=okR x:=by
 unfold okR
 cases h:x.ok with
 |true=>rw[a0B h]
 |false=>
  have:x.rB=false:=by
   unfold PK.rB krB
   rw[show bB x.k x.a x.b x.c x.on x.kd x.d x.vs=false from h];rfl
  rw[this]
def PK.sd (x:PK):Bool:=decide (x.a.length≤274877906944)&&decide (x.d.length≤274877906944)
def sdK (ks:List PK):Bool:=decide (ks.length≤274877906944)&&ks.all PK.sd
theorem rF {ks:List PK} (h:sdK ks=true):ks.length≤274877906944∧ ∀i,decide ((ks.getD i PK0).a.length≤274877906944)=true∧decide ((ks.getD i PK0).d.length≤274877906944)=true:=by
 simp only[sdK,Bool.and_eq_true,rpS,decide_eq_true_eq]at h
 refine⟨h.1,fun i=> ?_⟩
 by_cases hi:i<ks.length
 ·have:=List.all_eq_true.1 h.2 _ (dA (d:=PK0) hi)
  simpa [PK.sd]using this
 ·rw[List.getD_eq_getElem?_getD,List.getElem?_eq_none (by omega)];exact⟨rfl,rfl⟩
theorem AP {ks:List PK} (h:sdK ks=true):fN (ks.map PK.rD)=true:=by
 simp only[sdK,Bool.and_eq_true,rpS,decide_eq_true_eq]at h
 simp only[fN,Bool.and_eq_true,rpS,decide_eq_true_eq,List.length_map,List.all_map,List.all_eq_true]
 refine⟨h.1,fun x hx=> ?_⟩
 have:=List.all_eq_true.1 h.2 x hx
 simp only[PK.sd,Bool.and_eq_true,rpS,decide_eq_true_eq]at this
 exact decide_eq_true (xY _ _ _ _ _ _ _ _ this.2)
def itB (ks:List PK):Bool:=ks.all okR&&jtB (ks.map PK.rD)
def itS (ks:List PK):ByteArray:=bif itB ks then bO (jlI (ks.map PK.rD))else⟨#[]⟩
noncomputable def fZ:List aZ:=[⟨118,[],nm (vwM qW)⟩,⟨115,[],nm (vwM kP)⟩]++WS
theorem X4:a7 Tryz.prog fZ:=by
 refine a7.append ?_ a5L
 intro e he
 simp only[List.mem_cons,List.not_mem_nil,or_false]at he
 rcases he with rfl|rfl
 ·exact aS.ok (aS.vw m20)
 ·exact aS.ok (aS.vw m93)
theorem mK:bK Tryz.prog (a9 fZ):=aO X4
noncomputable abbrev fIT:=Tryz.f60
noncomputable def IIT (ks:List PK) (m:List (List Int)) (n:Nat) (i:Int):St:=aR fIT.ntmps [(4,.c (.sl 0 0 n 1 none)),(14,.c (.view none (.typ .pk ks) ks.length 8 none)),(15,.c (.int .i64 (ks.length:Int))),(16,.c (.int .i64 i))] [.live (.ivs .i64 m)]
noncomputable def XIT (m:List (List Int)) (n:Nat):St:=aR fIT.ntmps [(4,.c (.sl 0 0 n 1 none))] [.live (.ivs .i64 m)]
noncomputable def YIT (m:List (List Int)) (n:Nat):St:=aR fIT.ntmps [(2,.c (.str ⟨#[]⟩)),(3,.c (.bool false)),(4,.c (.sl 0 0 n 1 none))] [.live (.ivs .i64 m)]
theorem a0C (ks:List PK) (m:List (List Int)) (n:Nat) (i:Int):aC 0 (a6 fIT 0) (a8 fIT 0) (aD tt (a9 fZ) ([]) 0 100 (a5 0 (a0 fIT)) (IIT ks m n i) [(0,true),(0,true)])=
  some (.ret,(decide (i<(↑ks.length:Int))&&(decide (0≤i)&&(decide (i<(↑ks.length:Int))&&((decide (i.toNat<ks.length)&&true)&&(decide ((ks.getD i.toNat PK0).7.length≤274877906944)&&(decide (((ks.getD i.toNat PK0).rD).length=((ks.getD i.toNat PK0).rD).length)&&(rp3 (!(ks.getD i.toNat PK0).rB) true))))))),[],YIT m n):=by kernel_rfl
theorem a0D (ks:List PK) (m:List (List Int)) (n:Nat) (i:Int):aC 0 (a6 fIT 0) (a8 fIT 0) (aD tt (a9 fZ) ([]) 0 100 (a5 0 (a0 fIT)) (IIT ks m n i) [(0,true),(0,false),(0,true)])=
  some (.ret,(decide (i<(↑ks.length:Int))&&(decide (0≤i)&&(decide (i<(↑ks.length:Int))&&((decide (i.toNat<ks.length)&&true)&&(decide ((ks.getD i.toNat PK0).7.length≤274877906944)&&(decide (((ks.getD i.toNat PK0).rD).length=((ks.getD i.toNat PK0).rD).length)&&(rp2 (!!(ks.getD i.toNat PK0).rB) ((bif !(ks.getD i.toNat PK0).rB then true else(ks.getD i.toNat PK0).5)&&true)))))))),[],YIT m n):=by kernel_rfl
theorem a0E (ks:List PK) (m:List (List Int)) (n:Nat) (i:Int):aC 0 (a6 fIT 0) (a8 fIT 0) (aD tt (a9 fZ) ([]) 0 100 (a5 0 (a0 fIT)) (IIT ks m n i) [(0,true),(0,false),(0,false)])=
  some (.normal,(decide (i<(↑ks.length:Int))&&(decide (0≤i)&&(decide (i<(↑ks.length:Int))&&((decide (i.toNat<ks.length)&&true)&&(decide ((ks.getD i.toNat PK0).7.length≤274877906944)&&(decide (((ks.getD i.toNat PK0).rD).length=((ks.getD i.toNat PK0).rD).length)&&(rp2 (!!(ks.getD i.toNat PK0).rB) ((!bif !(ks.getD i.toNat PK0).rB then true else(ks.getD i.toNat PK0).5)&&(decide (n=m.length)&&((decide (n+1≤274877906944))&&true)))))))))),[],IIT ks (m++[(ks.getD i.toNat PK0).rD]) (n+1) (IntKind.i64.wrap (i+1))):=by kernel_rfl
theorem a0F (ks:List PK) (m:List (List Int)) (n:Nat) (i:Int):aC 0 (a6 fIT 0) (a8 fIT 0) (aD tt (a9 fZ) ([]) 0 100 (a5 0 (a0 fIT)) (IIT ks m n i) [(0,false)])=
  some (.exit 0,((!decide (i<(↑ks.length:Int)))&&true),[],XIT m n):=by kernel_rfl
theorem a3Y (nm:ByteArray) (ks:List PK) (m:List (List Int)) (n:Nat):aE tt (a9 fZ) ([(0,⟨a6 fIT 0,IIT ks [] 0 0,.normal,XIT m n⟩)]) 100 fIT [.agg [.str nm,.view none (.typ .pk ks) ks.length 8 none]] [] []=
  some ⟨.tup [.c (.str (bif jtB m then bO (jlI m)else {data:= #[]})),.c (.bool (jtB m))],[],(decide ((↑ks.length:Int)≤274877906944)&&(decide (n=m.length)&&((fN m)&&true))),[IIT ks [] 0 0=IIT ks [] 0 0]⟩:=by kernel_rfl
theorem a57 (nm:ByteArray) (ks:List PK) (m:List (List Int)) (n:Nat):aE tt (a9 fZ) ([(0,⟨a6 fIT 0,IIT ks [] 0 0,.ret,YIT m n⟩)]) 100 fIT [.agg [.str nm,.view none (.typ .pk ks) ks.length 8 none]] [] []=
  some ⟨.tup [.c (.str {data:= #[]}),.c (.bool false)],[],((decide ((↑ks.length:Int)≤274877906944))&&true),[IIT ks [] 0 0=IIT ks [] 0 0]⟩:=by kernel_rfl
noncomputable abbrev fLT:=Tryz.f57
noncomputable def ILT (ks:List PK) (m:List (List Int)) (n:Nat) (i:Int):St:=aR fLT.ntmps [(0,.c (.view none (.typ .pk ks) ks.length 8 none)),(4,.c (.sl 0 0 n 1 none)),(5,.c (.int .i64 i))] [.live (.ivs .i64 m)]
noncomputable def XLT (m:List (List Int)) (n:Nat):St:=aR fLT.ntmps [(4,.c (.sl 0 0 n 1 none))] [.live (.ivs .i64 m)]
theorem a0I (ks:List PK) (m:List (List Int)) (n:Nat) (i:Int):aC 0 (a6 fLT 0) (a8 fLT 0) (aD tt (a9 fZ) ([]) 0 100 (a5 0 (a0 fLT)) (ILT ks m n i) [(0,true)])=
  some (.normal,(decide (i<(↑ks.length:Int))&&(decide (0≤i)&&(decide (i<(↑ks.length:Int))&&((decide (i.toNat<ks.length)&&true)&&(decide ((ks.getD i.toNat PK0).7.length≤274877906944)&&(((ks.getD i.toNat PK0).5||bet (ks.getD i.toNat PK0).1 1 2&&(decide ((ks.getD i.toNat PK0).2.length=8)&&(aA (ks.getD i.toNat PK0).2&&(decide ((ks.getD i.toNat PK0).3.length=8)&&(decide ((ks.getD i.toNat PK0).4.length=8)&&decide (mxL (ks.getD i.toNat PK0).3≤1000))))))&&(decide ((bif (ks.getD i.toNat PK0).5 then(ks.getD i.toNat PK0).7 else l2D (ks.getD i.toNat PK0).1 (ks.getD i.toNat PK0).2 (ks.getD i.toNat PK0).3 (ks.getD i.toNat PK0).4).length=(bif (ks.getD i.toNat PK0).5 then(ks.getD i.toNat PK0).7 else l2D (ks.getD i.toNat PK0).1 (ks.getD i.toNat PK0).2 (ks.getD i.toNat PK0).3 (ks.getD i.toNat PK0).4).length)&&(decide (n=m.length)&&((decide (n+1≤274877906944))&&true))))))))),[],ILT ks (m++[bif (ks.getD i.toNat PK0).5 then(ks.getD i.toNat PK0).7 else l2D (ks.getD i.toNat PK0).1 (ks.getD i.toNat PK0).2 (ks.getD i.toNat PK0).3 (ks.getD i.toNat PK0).4]) (n+1) (IntKind.i64.wrap (i+1))):=by kernel_rfl
theorem a0J (ks:List PK) (m:List (List Int)) (n:Nat) (i:Int):aC 0 (a6 fLT 0) (a8 fLT 0) (aD tt (a9 fZ) ([]) 0 100 (a5 0 (a0 fLT)) (ILT ks m n i) [(0,false)])=
  some (.exit 0,((!decide (i<(↑ks.length:Int)))&&true),[],XLT m n):=by kernel_rfl
theorem a47 (ks:List PK) (m:List (List Int)) (n:Nat):aE tt (a9 fZ) ([(0,⟨a6 fLT 0,ILT ks [] 0 0,.normal,XLT m n⟩)]) 100 fLT [.c (.view none (.typ .pk ks) ks.length 8 none)] [] []=
  some ⟨.tup [.c (.str (bif jkB m then jkT m else {data:= #[]})),.c (.bool (jkB m))],[],(decide (n=m.length)&&((fN m)&&true)),[ILT ks [] 0 0=ILT ks [] 0 0]⟩:=by kernel_rfl
noncomputable abbrev fUS:=Tryz.f63
noncomputable def IUS (its:List Itm) (n i:Int):St:=aR fUS.ntmps [(3,.c (.int .i64 n)),(7,.c (.view none (.typ .itm its) its.length 2 none)),(8,.c (.int .i64 (its.length:Int))),(9,.c (.int .i64 i))] []
noncomputable def XUS (n:Int):St:=aR fUS.ntmps [(3,.c (.int .i64 n))] []
theorem a1I (its:List Itm) (n i:Int):aC 0 (a6 fUS 0) (a8 fUS 0) (aD tt (a9 fZ) ([]) 0 100 (a5 0 (a0 fUS)) (IUS its n i) [(0,true)])=
  some (.normal,(decide (i<(↑its.length:Int))&&(decide (0≤i)&&(decide (i<(↑its.length:Int))&&((decide (i.toNat<its.length)&&true)&&true)))),[],IUS its (IntKind.i64.wrap (n+(↑(its.getD i.toNat aI).ks.length:Int))) (IntKind.i64.wrap (i+1))):=by kernel_rfl
theorem a1J (its:List Itm) (n i:Int):aC 0 (a6 fUS 0) (a8 fUS 0) (aD tt (a9 fZ) ([]) 0 100 (a5 0 (a0 fUS)) (IUS its n i) [(0,false)])=
  some (.exit 0,((!decide (i<(↑its.length:Int)))&&true),[],XUS n):=by kernel_rfl
theorem a55 (q:Int) (its:List Itm) (n:Int):aE tt (a9 fZ) ([(0,⟨a6 fUS 0,IUS its 0 0,.normal,XUS n⟩)]) 100 fUS [.agg [.int .i64 q,.view none (.typ .itm its) its.length 2 none]] [] []=
  some ⟨.c (.int .i64 n),[],true,[IUS its 0 0=IUS its 0 0]⟩:=by kernel_rfl
noncomputable abbrev fUT:=Tryz.f65
noncomputable def IUT (q:Int) (its:List Itm) (n i:Int):St:=aR fUT.ntmps [(1,.c (.ptr 0 0 0 0)),(3,.c (.int .i64 n)),(4,.c (.int .i64 i))] [.live (.cells [.int .i64 q,.view none (.typ .itm its) its.length 2 none])]
noncomputable def XUT (n:Int):St:=aR fUT.ntmps [(3,.c (.int .i64 n))] []
theorem a1K (q:Int) (its:List Itm) (n i:Int):aC 0 (a6 fUT 0) (a8 fUT 0) (aD tt (a9 fZ) ([]) 0 100 (a5 0 (a0 fUT)) (IUT q its n i) [(0,true)])=
  some (.normal,(decide (i<(↑its.length:Int))&&(decide (0≤i)&&(decide (i<(↑its.length:Int))&&((decide (i.toNat<its.length)&&true)&&true)))),[],IUT q its (IntKind.i64.wrap (n+(↑(its.getD i.toNat aI).ks.length:Int))) (IntKind.i64.wrap (i+1))):=by kernel_rfl
theorem a1L (q:Int) (its:List Itm) (n i:Int):aC 0 (a6 fUT 0) (a8 fUT 0) (aD tt (a9 fZ) ([]) 0 100 (a5 0 (a0 fUT)) (IUT q its n i) [(0,false)])=
  some (.exit 0,((!decide (i<(↑its.length:Int)))&&true),[],XUT n):=by kernel_rfl
theorem a56 (q:Int) (its:List Itm) (n:Int):aE tt (a9 fZ) ([(0,⟨a6 fUT 0,IUT q its 0 0,.normal,XUT n⟩)]) 100 fUT [.agg [.int .i64 q,.view none (.typ .itm its) its.length 2 none]] [] []=
  some ⟨.c (.int .i64 n),[],true,[IUT q its 0 0=IUT q its 0 0]⟩:=by kernel_rfl
theorem lIT (ks:List PK) (h:sdK ks=true):match cD (β:=List (List Int)) (γ:=List (List Int)) (fun i o=>bif okR (ks.getD i PK0)then .inl (o++[(ks.getD i PK0).rD])else .inr o) ks.length 0 []with
  |.inl o=>aN none Tryz.prog 0 (.block 0 (.loop (a5 0 (a0 fIT)))) (IIT ks [] 0 0) fun e t=>e=.normal∧t=XIT o o.length
  |.inr o=>aN none Tryz.prog 0 (.block 0 (.loop (a5 0 (a0 fIT)))) (IIT ks [] 0 0) fun e t=>e=.ret∧t=YIT o o.length:=by
 obtain⟨h1,h2⟩:=rF h
 have g:=aN.countE (ro:=none) hT mK bF (m:=0) (id:=0) (body:=a5 0 (a0 fIT)) (β:=List (List Int)) (γ:=List (List Int)) ks.length (fun i o=>o.length=i) (fun i o=>IIT ks o o.length i) (fun o=>XIT o o.length) (fun o=>YIT o o.length) .ret (.inr rfl)
  (fun i o=>bif okR (ks.getD i PK0)then .inl (o++[(ks.getD i PK0).rD])else .inr o) (a6 fIT 0) (a8 fIT 0) (fun _ _=>[]) (fun _ _ _ _=>aK.nil) (fun i o hi ho=> ?_) (fun o _=>⟨_,_,⟨_,_,a0F ks o o.length ks.length,by simp,by simp⟩⟩) [] rfl
 ·split<;>rename_i hq<;>rw[hq]at g<;>exact g
 ·obtain⟨h3,h4⟩:=h2 i
  rw[←RR]
  cases hb:(ks.getD i PK0).rB with
  |false=>
   have e:=a0C ks o o.length i
   rw[Int.toNat_natCast]at e
   exact .inr ⟨o,rfl,_,_,⟨_,_,e,by simp only[hb,h4,decide_true,rpS,decide_false,beq_self_eq_true,bne_self_eq_false,Bool.not_true,Bool.not_false,Bool.not_not,cond_true,cond_false,Bool.true_and,Bool.and_true,Bool.false_and,Bool.and_false,Bool.or_true,Bool.true_or,Bool.or_false,Bool.false_or,Bool.and_eq_true,Bool.not_eq_true',decide_eq_true_eq,decide_eq_false_iff_not,true_and,and_true];omega,by simp⟩⟩
  |true=>
   cases ho':(ks.getD i PK0).on with
   |true=>
    have e:=a0D ks o o.length i
    rw[Int.toNat_natCast]at e
    exact .inr ⟨o,rfl,_,_,⟨_,_,e,by simp only[hb,ho',h4,decide_true,rpS,decide_false,beq_self_eq_true,bne_self_eq_false,Bool.not_true,Bool.not_false,Bool.not_not,cond_true,cond_false,Bool.true_and,Bool.and_true,Bool.false_and,Bool.and_false,Bool.or_true,Bool.true_or,Bool.or_false,Bool.false_or,Bool.and_eq_true,Bool.not_eq_true',decide_eq_true_eq,decide_eq_false_iff_not,true_and,and_true];omega,by simp⟩⟩
   |false=>
    have e:=a0E ks o o.length i
    rw[aB (i:=(i:Int)+1) (by omega) (by omega),Int.toNat_natCast]at e
    have e':(o++[(ks.getD i PK0).rD]).length=o.length+1:=List.length_append
    refine .inl ⟨_,rfl,by simp[ho], ?_⟩
    rw[e']
    exact⟨_,_,_,_,e,by simp only[hb,ho',h4,decide_true,rpS,decide_false,beq_self_eq_true,bne_self_eq_false,Bool.not_true,Bool.not_false,Bool.not_not,cond_true,cond_false,Bool.true_and,Bool.and_true,Bool.false_and,Bool.and_false,Bool.or_true,Bool.true_or,Bool.or_false,Bool.false_or,Bool.and_eq_true,Bool.not_eq_true',decide_eq_true_eq,decide_eq_false_iff_not,true_and,and_true];omega,by simp⟩
def PM:aM:=fun args h=>
 match args,h with
 |[.agg [.str nm,.view _ (.typ .pk ks) n 8 _]],[]=>
  some (.tup [.c (.str (itS ks)),.c (.bool (itB ks))],[],[decide (n=ks.length),sdK ks])
 |_,_=>none
theorem mIT:aS Tryz.prog 60 PM:=by
 intro args h res h' o hnorm he ho
 unfold PM at he
 split at he
 case h_2=>cases he
 rename_i nm nl ks n cap
 simp only[Option.some.injEq,Prod.mk.injEq]at he
 obtain⟨rfl,rfl,rfl⟩:=he
 simp only[List.mem_cons,List.not_mem_nil,or_false,forall_eq_or_imp,forall_eq,decide_eq_true_eq]at ho
 obtain⟨o1,o2⟩:=ho
 simp only[b8,AV.norm,bA,aF.norm,Con.size,List.cons.injEq,AV.c.injEq,AV.agg.injEq,aF.view.injEq,aL,true_and,and_true]at hnorm
 obtain⟨rfl,_,rfl⟩:=hnorm
 subst o1
 have o1:=o2
 have hn:=(rF o1).1
 have hn':decide ((ks.length:Int)≤274877906944)=true:=decide_eq_true (by omega)
 have g:=lIT ks o1
 have c:=KN (p:=okR) (g:=PK.rD) (d:=PK0) ks
 unfold itS itB
 generalize cD (β:=List (List Int)) (γ:=List (List Int)) (fun i o=>bif okR (ks.getD i PK0)then .inl (o++[(ks.getD i PK0).rD])else .inr o) ks.length 0 []=r at g c
 rcases r with r|r
 ·obtain⟨c1,c2⟩:=c
  subst c2
  rw[c1]
  have hs:=AP o1
  exact bQ mK (a3Y nm ks (ks.map PK.rD) (ks.map PK.rD).length) (by kernel_rfl) (by kernel_rfl) (by kernel_rfl) g (by simp) (by simp only[hn',hs,decide_true,rpS,decide_false,beq_self_eq_true,bne_self_eq_false,Bool.not_true,Bool.not_false,Bool.not_not,cond_true,cond_false,Bool.true_and,Bool.and_true,Bool.false_and,Bool.and_false,Bool.or_true,Bool.true_or,Bool.or_false,Bool.false_or,Bool.and_eq_true,Bool.not_eq_true',decide_eq_true_eq,decide_eq_false_iff_not,true_and,and_true])
 ·rw[c]
  exact bQ mK (a57 nm ks _ _) (by kernel_rfl) (by kernel_rfl) (by kernel_rfl) g (by simp) (by simp only[hn',decide_true,rpS,decide_false,beq_self_eq_true,bne_self_eq_false,Bool.not_true,Bool.not_false,Bool.not_not,cond_true,cond_false,Bool.true_and,Bool.and_true,Bool.false_and,Bool.and_false,Bool.or_true,Bool.true_or,Bool.or_false,Bool.false_or,Bool.and_eq_true,Bool.not_eq_true',decide_eq_true_eq,decide_eq_false_iff_not,true_and,and_true])
theorem N0 {x:PK} (h:okR x=true):x.rD=l2D x.k x.a x.b x.c∧x.on=false∧x.d=[]∧(x.on||bet x.k 1 2&&(decide (x.a.length=8)&&(aA x.a&&(decide (x.b.length=8)&&(decide (x.c.length=8)&&decide (mxL x.b≤1000))))))=true:=by
 unfold okR at h
 rw[Bool.and_eq_true,Bool.not_eq_true']at h
 have K:=x.offK h.1 h.2
 have h3:=K.s.mx.2
 refine⟨by rw[TP h.1 h.2,K.s.rd.1],h.2,K.d0, ?_⟩
 rw[K.s.hk,K.s.ha,K.s.hb,K.s.hc,K.s.hf,decide_eq_true (show mxL x.b≤1000 by omega)]
 simp
theorem y5 {α β:Type} {g:α→β} {d:α} (l:List α):bH (fun i o=>o++[g (l.getD i d)]) l.length 0 []=l.map g:=by
 have key: ∀f i o,i+f=l.length→o=(l.take i).map g→bH (fun i o=>o++[g (l.getD i d)]) f i o=l.map g:=by
  intro f
  induction f with
  |zero=>intro i o h1 h3;show o=_;rw[h3,List.take_of_length_le (by omega)]
  |succ f ih=>
   intro i o h1 h3
   refine ih (i+1) _ (by omega) ?_
   rw[h3]
   show List.map g (l.take i)++[g (l.getD i d)]=_
   rw[List.take_add_one,List.map_append,List.getElem?_eq_getElem (by omega),List.getD_eq_getElem?_getD,List.getElem?_eq_getElem (by omega)];rfl
 exact key _ _ _ (by omega) rfl
theorem lLT (ks:List PK) (h:sdK ks=true) (ha:ks.all okR=true):aN none Tryz.prog 0 (.block 0 (.loop (a5 0 (a0 fLT)))) (ILT ks [] 0 0) fun e t=>e=.normal∧t=XLT (ks.map PK.rD) (ks.map PK.rD).length:=by
 obtain⟨h1,h2⟩:=rF h
 have g:=aN.count (ro:=none) hT mK bF (m:=0) (id:=0) (body:=a5 0 (a0 fLT)) (β:=List (List Int)) ks.length (fun i o=>o.length=i) (fun i o=>ILT ks o o.length i) (fun o=>XLT o o.length) (fun i o=>o++[(ks.getD i PK0).rD]) (a6 fLT 0) (a8 fLT 0) (fun _ _=>[]) (fun _ _ _ _=>aK.nil) (fun i o hi ho=>⟨by simp[ho], ?_⟩) (fun o _=>⟨_,_,⟨_,_,a0J ks o o.length ks.length,by simp,by simp⟩⟩) [] rfl
 ·rw[y5]at g;exact g
 ·obtain⟨h3,h4⟩:=h2 i
  obtain⟨k1,k2,k3,k4⟩:=N0 (List.all_eq_true.1 ha _ (dA (d:=PK0) hi))
  have e:=a0I ks o o.length i
  rw[aB (i:=(i:Int)+1) (by omega) (by omega),Int.toNat_natCast]at e
  have e':(o++[(ks.getD i PK0).rD]).length=o.length+1:=List.length_append
  rw[e',k1]
  rw[show(bif (ks.getD i PK0).5 then(ks.getD i PK0).7 else l2D (ks.getD i PK0).1 (ks.getD i PK0).2 (ks.getD i PK0).3 (ks.getD i PK0).4)=l2D (ks.getD i PK0).k (ks.getD i PK0).a (ks.getD i PK0).b (ks.getD i PK0).c from by rw[show(ks.getD i PK0).5=false from k2];rfl]at e
  exact⟨_,_,_,_,e,by rw[show((ks.getD i PK0).5||bet (ks.getD i PK0).1 1 2&&(decide ((ks.getD i PK0).2.length=8)&&(aA (ks.getD i PK0).2&&(decide ((ks.getD i PK0).3.length=8)&&(decide ((ks.getD i PK0).4.length=8)&&decide (mxL (ks.getD i PK0).3≤1000))))))=true from k4];simp only[h4,decide_true,rpS,decide_false,beq_self_eq_true,bne_self_eq_false,Bool.not_true,Bool.not_false,Bool.not_not,cond_true,cond_false,Bool.true_and,Bool.and_true,Bool.false_and,Bool.and_false,Bool.or_true,Bool.true_or,Bool.or_false,Bool.false_or,Bool.and_eq_true,Bool.not_eq_true',decide_eq_true_eq,decide_eq_false_iff_not,true_and,and_true];omega,by simp⟩
def PP:aM:=fun args h=>
 match args,h with
 |[.c (.view _ (.typ .pk ks) n 8 _)],[]=>
  some (.tup [.c (.str (itS ks)),.c (.bool (itB ks))],[],[decide (n=ks.length),sdK ks,ks.all okR])
 |_,_=>none
theorem mLT:aS Tryz.prog 57 PP:=by
 intro args h res h' o hnorm he ho
 unfold PP at he
 split at he
 case h_2=>cases he
 rename_i nl ks n cap
 simp only[Option.some.injEq,Prod.mk.injEq]at he
 obtain⟨rfl,rfl,rfl⟩:=he
 simp only[List.mem_cons,List.not_mem_nil,or_false,forall_eq_or_imp,forall_eq,decide_eq_true_eq]at ho
 obtain⟨o1,o2,o3⟩:=ho
 simp only[b8,AV.norm,bA,aF.norm,Con.size,List.cons.injEq,AV.c.injEq,AV.agg.injEq,aF.view.injEq,aL,true_and,and_true]at hnorm
 obtain⟨rfl,_,rfl⟩:=hnorm
 subst o1
 have g:=lLT ks o2 o3
 have hs:=AP o2
 obtain⟨j1,j2⟩:=MS (ks.map PK.rD)
 unfold itS itB
 rw[o3]
 have e:(bif (true&&jtB (ks.map PK.rD))then bO (jlI (ks.map PK.rD))else⟨#[]⟩)=bif jkB (ks.map PK.rD)then jkT (ks.map PK.rD)else⟨#[]⟩:=by
  rw[←j1]
  cases hj:jtB (ks.map PK.rD)with
  |false=>rfl
  |true=>exact j2 hj
 rw[e,j1]
 exact bQ mK (a47 ks (ks.map PK.rD) (ks.map PK.rD).length) (by kernel_rfl) (by kernel_rfl) (by kernel_rfl) g (by simp) (by simp only[hs,decide_true,rpS,decide_false,beq_self_eq_true,bne_self_eq_false,Bool.not_true,Bool.not_false,Bool.not_not,cond_true,cond_false,Bool.true_and,Bool.and_true,Bool.false_and,Bool.and_false,Bool.or_true,Bool.true_or,Bool.or_false,Bool.false_or,Bool.and_eq_true,Bool.not_eq_true',decide_eq_true_eq,decide_eq_false_iff_not,true_and,and_true])
def usS (its:List Itm) (i:Nat) (n:Int):Int:=IntKind.i64.wrap (n+((its.getD i aI).ks.length:Int))
def jM (its:List Itm):Int:=bH (usS its) its.length 0 0
theorem lUS (its:List Itm) (h:its.length≤274877906944):aN none Tryz.prog 0 (.block 0 (.loop (a5 0 (a0 fUS)))) (IUS its 0 0) fun e t=>e=.normal∧t=XUS (jM its):=by
 refine aN.count (ro:=none) hT mK bF (m:=0) (id:=0) (body:=a5 0 (a0 fUS)) its.length (fun _ _=>True) (fun i n=>IUS its n i) (fun n=>XUS n) (usS its) (a6 fUS 0) (a8 fUS 0) (fun _ _=>[]) (fun _ _ _ _=>aK.nil) (fun i n hi _=>⟨trivial, ?_⟩) (fun n _=>⟨_,_,⟨_,_,a1J its n its.length,by simp,by simp⟩⟩) 0 trivial
 have e:=a1I its n i
 rw[aB (i:=(i:Int)+1) (by omega) (by omega),Int.toNat_natCast]at e
 exact⟨_,_,⟨_,_,e,by simp only[decide_true,rpS,decide_false,beq_self_eq_true,bne_self_eq_false,Bool.not_true,Bool.not_false,Bool.not_not,cond_true,cond_false,Bool.true_and,Bool.and_true,Bool.false_and,Bool.and_false,Bool.or_true,Bool.true_or,Bool.or_false,Bool.false_or,Bool.and_eq_true,Bool.not_eq_true',decide_eq_true_eq,decide_eq_false_iff_not,true_and,and_true];omega,by simp⟩⟩
theorem lUT (q:Int) (its:List Itm) (h:its.length≤274877906944):aN none Tryz.prog 0 (.block 0 (.loop (a5 0 (a0 fUT)))) (IUT q its 0 0) fun e t=>e=.normal∧t=XUT (jM its):=by
 refine aN.count (ro:=none) hT mK bF (m:=0) (id:=0) (body:=a5 0 (a0 fUT)) its.length (fun _ _=>True) (fun i n=>IUT q its n i) (fun n=>XUT n) (usS its) (a6 fUT 0) (a8 fUT 0) (fun _ _=>[]) (fun _ _ _ _=>aK.nil) (fun i n hi _=>⟨trivial, ?_⟩) (fun n _=>⟨_,_,⟨_,_,a1L q its n its.length,by simp,by simp⟩⟩) 0 trivial
 have e:=a1K q its n i
 rw[aB (i:=(i:Int)+1) (by omega) (by omega),Int.toNat_natCast]at e
 exact⟨_,_,⟨_,_,e,by simp only[decide_true,rpS,decide_false,beq_self_eq_true,bne_self_eq_false,Bool.not_true,Bool.not_false,Bool.not_not,cond_true,cond_false,Bool.true_and,Bool.and_true,Bool.false_and,Bool.and_false,Bool.or_true,Bool.true_or,Bool.or_false,Bool.false_or,Bool.and_eq_true,Bool.not_eq_true',decide_eq_true_eq,decide_eq_false_iff_not,true_and,and_true];omega,by simp⟩⟩
def Q7:aM:=fun args h=>
 match args,h with
 |[.agg [.int .i64 q,.view _ (.typ .itm its) n 2 _]],[]=>
  some (.c (.int .i64 (jM its)),[],[decide (n=its.length),decide (its.length≤274877906944)])
 |_,_=>none
theorem mUS:aS Tryz.prog 63 Q7:=by
 intro args h res h' o hnorm he ho
 unfold Q7 at he
 split at he
 case h_2=>cases he
 rename_i q nl its n cap
 simp only[Option.some.injEq,Prod.mk.injEq]at he
 obtain⟨rfl,rfl,rfl⟩:=he
 simp only[List.mem_cons,List.not_mem_nil,or_false,forall_eq_or_imp,forall_eq,decide_eq_true_eq]at ho
 obtain⟨o1,o2⟩:=ho
 simp only[b8,AV.norm,bA,aF.norm,Con.size,List.cons.injEq,AV.c.injEq,AV.agg.injEq,aF.view.injEq,aL,true_and,and_true]at hnorm
 obtain⟨rfl,_,rfl⟩:=hnorm
 subst o1
 have o1':=o2
 exact bQ mK (a55 q its (jM its)) (by kernel_rfl) (by kernel_rfl) (by kernel_rfl) (lUS its o1') (by simp) (by simp)
def Q8:aM:=fun args h=>
 match args,h with
 |[.agg [.int .i64 q,.view _ (.typ .itm its) n 2 _]],[]=>
  some (.c (.int .i64 (jM its)),[],[decide (n=its.length),decide (its.length≤274877906944)])
 |_,_=>none
theorem mUT:aS Tryz.prog 65 Q8:=by
 intro args h res h' o hnorm he ho
 unfold Q8 at he
 split at he
 case h_2=>cases he
 rename_i q nl its n cap
 simp only[Option.some.injEq,Prod.mk.injEq]at he
 obtain⟨rfl,rfl,rfl⟩:=he
 simp only[List.mem_cons,List.not_mem_nil,or_false,forall_eq_or_imp,forall_eq,decide_eq_true_eq]at ho
 obtain⟨o1,o2⟩:=ho
 simp only[b8,AV.norm,bA,aF.norm,Con.size,List.cons.injEq,AV.c.injEq,AV.agg.injEq,aF.view.injEq,aL,true_and,and_true]at hnorm
 obtain⟨rfl,_,rfl⟩:=hnorm
 subst o1
 have o1':=o2
 exact bQ mK (a56 q its (jM its)) (by kernel_rfl) (by kernel_rfl) (by kernel_rfl) (lUT q its o1') (by simp) (by simp)
theorem a4P (nm:ByteArray) (lcv:List (Nat×LC)):aE tt (a9 fZ) (lcv) 100 Tryz.f61 [.c (.str nm)] [] [(0,true),(0,true)]=
  some ⟨.c (.bool (bif bif (↑nm.size:Int)==1 then !cW nm {data:= #[65]}else false then cW nm {data:= #[70]}||hO nm {data:= #[70]}else false)),[],(rp2 ((↑nm.size:Int)==1) (rp2 (bif (↑nm.size:Int)==1 then !cW nm {data:= #[65]}else false) true)),[]⟩:=by kernel_rfl
theorem a4Q (nm:ByteArray) (lcv:List (Nat×LC)):aE tt (a9 fZ) (lcv) 100 Tryz.f61 [.c (.str nm)] [] [(0,true),(0,false)]=
  some ⟨.c (.bool false),[],(rp2 ((↑nm.size:Int)==1) (rp3 (!bif (↑nm.size:Int)==1 then !cW nm {data:= #[65]}else false) true)),[]⟩:=by kernel_rfl
theorem a4R (nm:ByteArray) (lcv:List (Nat×LC)):aE tt (a9 fZ) (lcv) 100 Tryz.f61 [.c (.str nm)] [] [(0,false)]=
  some ⟨.c (.bool false),[],(rp3 (!(↑nm.size:Int)==1) true),[]⟩:=by kernel_rfl
theorem a44 (nm:ByteArray) (lcv:List (Nat×LC)):aE tt (a9 fZ) (lcv) 100 Tryz.f55 [.c (.str nm)] [] [(0,true),(0,true)]=
  some ⟨.c (.bool (bif bif (↑nm.size:Int)==1 then !cW nm {data:= #[65]}else false then cW nm {data:= #[70]}||hO nm {data:= #[70]}else false)),[],(rp2 ((↑nm.size:Int)==1) (rp2 (bif (↑nm.size:Int)==1 then !cW nm {data:= #[65]}else false) true)),[]⟩:=by kernel_rfl
theorem a45 (nm:ByteArray) (lcv:List (Nat×LC)):aE tt (a9 fZ) (lcv) 100 Tryz.f55 [.c (.str nm)] [] [(0,true),(0,false)]=
  some ⟨.c (.bool false),[],(rp2 ((↑nm.size:Int)==1) (rp3 (!bif (↑nm.size:Int)==1 then !cW nm {data:= #[65]}else false) true)),[]⟩:=by kernel_rfl
theorem a46 (nm:ByteArray) (lcv:List (Nat×LC)):aE tt (a9 fZ) (lcv) 100 Tryz.f55 [.c (.str nm)] [] [(0,false)]=
  some ⟨.c (.bool false),[],(rp3 (!(↑nm.size:Int)==1) true),[]⟩:=by kernel_rfl
def cU (nm:ByteArray):Bool:=((nm.size:Int)==1)&&(!cW nm ⟨#[65]⟩&&(cW nm ⟨#[70]⟩||hO nm ⟨#[70]⟩))
def Q4:aM:=fun args h=>
 match args,h with
 |[.c (.str nm)],[]=>
  some (.c (.bool (cU nm)),[],[])
 |_,_=>none
theorem mTI:aQ Tryz.prog 61 Q4:=by
 intro args h res h' o he ho
 unfold Q4 at he
 split at he
 case h_2=>cases he
 rename_i nm
 simp only[Option.some.injEq,Prod.mk.injEq]at he
 obtain⟨rfl,rfl,rfl⟩:=he
 unfold cU
 cases h1:(nm.size:Int)==1 with
 |false=>exact cF mK (a4R nm []) (by kernel_rfl) (by kernel_rfl) rfl (by simp only[h1,decide_true,rpS,decide_false,beq_self_eq_true,bne_self_eq_false,Bool.not_true,Bool.not_false,Bool.not_not,cond_true,cond_false,Bool.true_and,Bool.and_true,Bool.false_and,Bool.and_false,Bool.or_true,Bool.true_or,Bool.or_false,Bool.false_or,Bool.and_eq_true,Bool.not_eq_true',decide_eq_true_eq,decide_eq_false_iff_not,true_and,and_true])
 |true=>
  cases h2:cW nm ⟨#[65]⟩with
  |true=>exact cF mK (a4Q nm []) (by kernel_rfl) (by kernel_rfl) rfl (by simp only[h1,h2,decide_true,rpS,decide_false,beq_self_eq_true,bne_self_eq_false,Bool.not_true,Bool.not_false,Bool.not_not,cond_true,cond_false,Bool.true_and,Bool.and_true,Bool.false_and,Bool.and_false,Bool.or_true,Bool.true_or,Bool.or_false,Bool.false_or,Bool.and_eq_true,Bool.not_eq_true',decide_eq_true_eq,decide_eq_false_iff_not,true_and,and_true])
  |false=>
   have e:=a4P nm []
   rw[h1,h2]at e
   exact cF mK e (by kernel_rfl) (by kernel_rfl) rfl (by simp only[decide_true,rpS,decide_false,beq_self_eq_true,bne_self_eq_false,Bool.not_true,Bool.not_false,Bool.not_not,cond_true,cond_false,Bool.true_and,Bool.and_true,Bool.false_and,Bool.and_false,Bool.or_true,Bool.true_or,Bool.or_false,Bool.false_or,Bool.and_eq_true,Bool.not_eq_true',decide_eq_true_eq,decide_eq_false_iff_not,true_and,and_true])
def PO:aM:=fun args h=>
 match args,h with
 |[.c (.str nm)],[]=>
  some (.c (.bool (cU nm)),[],[])
 |_,_=>none
theorem mLN:aQ Tryz.prog 55 PO:=by
 intro args h res h' o he ho
 unfold PO at he
 split at he
 case h_2=>cases he
 rename_i nm
 simp only[Option.some.injEq,Prod.mk.injEq]at he
 obtain⟨rfl,rfl,rfl⟩:=he
 unfold cU
 cases h1:(nm.size:Int)==1 with
 |false=>exact cF mK (a46 nm []) (by kernel_rfl) (by kernel_rfl) rfl (by simp only[h1,decide_true,rpS,decide_false,beq_self_eq_true,bne_self_eq_false,Bool.not_true,Bool.not_false,Bool.not_not,cond_true,cond_false,Bool.true_and,Bool.and_true,Bool.false_and,Bool.and_false,Bool.or_true,Bool.true_or,Bool.or_false,Bool.false_or,Bool.and_eq_true,Bool.not_eq_true',decide_eq_true_eq,decide_eq_false_iff_not,true_and,and_true])
 |true=>
  cases h2:cW nm ⟨#[65]⟩with
  |true=>exact cF mK (a45 nm []) (by kernel_rfl) (by kernel_rfl) rfl (by simp only[h1,h2,decide_true,rpS,decide_false,beq_self_eq_true,bne_self_eq_false,Bool.not_true,Bool.not_false,Bool.not_not,cond_true,cond_false,Bool.true_and,Bool.and_true,Bool.false_and,Bool.and_false,Bool.or_true,Bool.true_or,Bool.or_false,Bool.false_or,Bool.and_eq_true,Bool.not_eq_true',decide_eq_true_eq,decide_eq_false_iff_not,true_and,and_true])
  |false=>
   have e:=a44 nm []
   rw[h1,h2]at e
   exact cF mK e (by kernel_rfl) (by kernel_rfl) rfl (by simp only[decide_true,rpS,decide_false,beq_self_eq_true,bne_self_eq_false,Bool.not_true,Bool.not_false,Bool.not_not,cond_true,cond_false,Bool.true_and,Bool.and_true,Bool.false_and,Bool.and_false,Bool.or_true,Bool.true_or,Bool.or_false,Bool.false_or,Bool.and_eq_true,Bool.not_eq_true',decide_eq_true_eq,decide_eq_false_iff_not,true_and,and_true])
end
end Go.Proofs.YtdnfojanjejdgaaGreat.Am
