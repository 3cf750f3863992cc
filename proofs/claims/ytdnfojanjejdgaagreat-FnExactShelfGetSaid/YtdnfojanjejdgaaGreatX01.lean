/- DERIVED. Part 1 of the proof: Am9, Am10, Am11, Am12, Am38, Am13, Am37, Am14, Am15. No statement of the program is proved here. -/
import Derived.Test.YtdnfojanjejdgaaGreatX00
import Derived.Laws.AppendOwn
import Derived.ChangeKeysEq
import Derived.OrdersIn
import Derived.LoopNIn
import Derived.RangeFuncCalls
import Derived.RangeFuncLeaves
set_option linter.unusedSimpArgs false
set_option linter.unusedVariables false
set_option linter.unusedSectionVars false
set_option linter.defProp false
namespace Go.Proofs.YtdnfojanjejdgaaGreat.Am
section
variable {X : Nat → Prop}
theorem iL {get:Get} {id:Nat} (h:hO get id=true): ∃c,get id=.live c:=by
 unfold hO at h;split at h
 ·exact⟨_,by assumption⟩
 ·cases h
theorem oE {n:Int} (h0:0≤n) (h1:n≤9223372036854775807):IntKind.i64.wrap n=n:=by
 have e:IntKind.i64.wrap n=(if n%18446744073709551616≥9223372036854775808 then n%18446744073709551616-18446744073709551616 else n%18446744073709551616):=by
  unfold IntKind.wrap;simp[IntKind.bits,IntKind.signed]
 rw[e];split<;>omega
theorem dJ {w:World} {ρ:Rho} {k:IntKind} {n:Int} {v:Value} (h:AVR X w ρ (.c (.int k n)) v):v=.int k n:=by
 cases h with
 |c _ _ h=>cases h;rfl
theorem fW {w:World} {ρ:Rho} {b:Bool} {v:Value} (h:AVR X w ρ (.c (.bool b)) v):v=.bool b:=by
 cases h with
 |c _ _ h=>cases h;rfl
theorem rL {w:World} {ρ:Rho} {b:ByteArray} {v:Value} (h:AVR X w ρ (.c (.str b)) v):v=.string b:=by
 cases h with
 |c _ _ h=>cases h;rfl
theorem cO {w:World} {ρ:Rho} {x:aI} {v:Value} (h:AVR X w ρ (.c x) v):CR X w ρ x v:=by
 cases h with
 |c _ _ h=>exact h
theorem fZ {P:Program} (n:Nat) (w:World):(askRoom n).run P w=.ok () w:=by
 unfold askRoom;split<;>rfl
theorem mR {w':World} {ρ':Rho} {base b:Nat} {n es c:Nat} {cap:Option Nat} {ty:TypeId} {cs:Array Value} (hr:ρ' base=.row b) (hrow:w'.heap[b]? =some (.cells cs ty (0,0)))
  (hn:n≤c) (hc:c*es≤cs.size) (hcap:mZ cap c):AVR X w' ρ' (.c (.sl base 0 n es cap)) (.slice (some ⟨b,0,none⟩) n c):=by
 have hsh:w'.shape? b=some (ty,cs.size):=by simp[World.shape?,hrow]
 have:=CR0.sl (w:=w') (L:=fun b=>b9 ρ' b∨X b) (ρ:=ρ') base 0 n es cap b c ty cs.size hr hsh (by simpa using hc) hn hcap
 exact .c _ _ (by simpa using this)
theorem vG {P:Program} {t:Nat} {ti:TI} {i:TypeInfo} {z:Value} {d:TypeDesc} (k:iJ P t ti i z d):z.cells.size=ti.size:=by
 have:=(pW (X:=fun _=>False) (w:=default) (ρ:=fun _=> .dead) k.zs).1
 rw[k.zl]at this
 simpa using this
section
variable {P : Program} {tt : Tab} (hT : iK P tt) {w0 w : World} {M : Nat → Prop} {h : List aV} {ρ : Rho} (m : Mem X w0 M h ρ w)
 {get:Get} (hg: ∀id c,get id=.live c→Heap.get h id=.live c) {base:Nat} (hb:Heap.get h base=.unborn) (hbl:base<h.length)
include m
include hT hb hbl in
theorem vW {t:Nat} {x y:AV} {v u:Value} (hx:AVR X w ρ x v) (hy:AVR X w ρ y u) {e:Eff} (he:mA tt base t x y=some e) (ho: ∀b∈e.obl,b=true):
  Res X P w0 M h ρ w e (Instr.makeSlice t v u):=by
 unfold mA at he
 replace he:=Option.bind_eq_some_iff.1 he
 obtain⟨ti,hti,he⟩:=he
 obtain⟨i,z,d,k⟩:=bR hT hti
 have hdesc:=k.desc
 split at he
 ·rename_i e' k1 n k2 c1 hfs
  replace he:=Option.bind_eq_some_iff.1 he
  obtain⟨te,hte,he⟩:=he
  obtain⟨i',z',d',k'⟩:=bR hT hte
  split at he
  ·rename_i hsm
   obtain⟨hbytes,hsize⟩:=hsm
   replace he:=Option.bind_eq_some_iff.1 he
   obtain⟨c,hc,he⟩:=he
   injection he with he;subst he
   have o1:0≤n:=by simpa using ho (decide (0≤n)) (by simp)
   have o2:n≤c1:=by simpa using ho (decide (n≤c1)) (by simp)
   have o3:c1≤274877906944:=by simpa using ho (decide (c1≤274877906944)) (by simp)
   rw[hfs]at hdesc
   cases d<;>simp only[fH]at hdesc<;>try (simp at hdesc;done)
   rename_i e1
   simp only[Bool.and_eq_true,rpS,decide_eq_true_eq]at hdesc
   obtain⟨hee,hag⟩:=hdesc
   subst hee
   obtain rfl:=dJ hx
   obtain rfl:=dJ hy
   have hwn:=oE o1 (by omega)
   have hwc:=oE (n:=c1) (by omega) (by omega)
   obtain⟨z1,z2⟩:=lY hc
   have hzl:te.zero.length=te.size:=k'.zl
   have hp:0<te.zero.length:=by omega
   have hlr:=kO (X:=X) (i7 k' w ρ) hp c1.toNat
   have hlrn:=kO (X:=X) (i7 k' w ρ) hp n.toNat
   rw[hzl]at hlr hlrn
   have hnc:n.toNat≤c1.toNat:=by omega
   have hmul:n.toNat*te.size≤c1.toNat*te.size:=Nat.mul_le_mul_right _ hnc
   obtain⟨g1,g2⟩:=m.alloc hb hbl c ((Array.range (c1.toNat*te.size)).map (z'.cells[· %z'.cells.size]!)) e1 (by rw[z1,hzl];simp;exact hmul) (fun q hq=>by
    have:=z2 hlrn q hq
    have hq2:q<n.toNat*te.size:=by rw[z1,hzl]at hq;exact hq
    have hq3:q<c1.toNat*te.size:=by omega
    simp[List.getD_eq_getElem?_getD,hq2]at this
    simpa [Array.getD_eq_getD_getElem?,hq3]using this)
   refine⟨_,_,_, ?_,g1,by simpa [cZ]using g2,mR (ty:=e1) (cs:=(Array.range (c1.toNat*te.size)).map (z'.cells[· %z'.cells.size]!)) (aW _ _ _) (by simp) hnc (by simp) (fun q hq=>Option.some.inj hq)⟩
   have hbc: ¬(281474976710656:Int)<(i'.bytes:Int)*c1:=by
    have h1:(i'.bytes:Int)≤256:=by rw[k'.bytes];omega
    have h2:(i'.bytes:Int)*c1≤256*c1:=Int.mul_le_mul_of_nonneg_right h1 (by omega)
    omega
   have hne: ¬c1.toNat*te.size=0∨c1.toNat*te.size=0:=by omega
   have hn0: ¬c1<0:=by omega
   have hl0: ¬n<0:=by omega
   have hlc: ¬n>c1:=by omega
   by_cases hz0:c1.toNat*te.size=0
   ·simp[Instr.makeSlice,run_underlying k.und,asInt,asIntOf,lU k',hwn,hwc,hn0,hl0,hlc,hbc,fZ,bZ k',hz0,eH]
    have e0: ∀f:Nat→Value,(Array.range 0).map f= #[]:=fun f=>Array.eq_empty_of_size_eq_zero (by simp)
    rw[e0,e0]
   ·simp[Instr.makeSlice,run_underlying k.und,asInt,asIntOf,lU k',hwn,hwc,hn0,hl0,hlc,hbc,fZ,bZ k',hz0,gV k',eH]
  ·cases he
 ·cases he
omit m in
theorem rY (τ:Ty) (xs ys:List τ.car):(Con.typ τ (xs++ys)).size=(Con.typ τ xs).size+(Con.typ τ ys).size∧(∀q,q<(Con.typ τ xs).size→(Con.typ τ (xs++ys)).cell q=(Con.typ τ xs).cell q)∧ ∀q,(Con.typ τ (xs++ys)).cell ((Con.typ τ xs).size+q)=(Con.typ τ ys).cell q:=by
 have hp:=τ.es_pos
 refine⟨by simp only[Con.size,List.length_append,Nat.add_mul],fun q hq=> ?_,fun q=> ?_⟩
 ·simp only[Con.size,Con.cell]at hq⊢
  have:q/τ.es<xs.length:=Nat.div_lt_of_lt_mul (by rw[Nat.mul_comm];exact hq)
  rw[List.getD_eq_getElem?_getD (l:=xs++ys),List.getElem?_append_left this,←List.getD_eq_getElem?_getD]
 ·simp only[Con.size,Con.cell]
  rw[show(xs.length*τ.es+q)/τ.es=xs.length+q/τ.es by rw[Nat.mul_comm,Nat.mul_add_div hp],show(xs.length*τ.es+q)%τ.es=q%τ.es by rw[Nat.mul_comm,Nat.mul_add_mod]]
  rw[List.getD_eq_getElem?_getD (l:=xs++ys),List.getElem?_append_right (Nat.le_add_right _ _),Nat.add_sub_cancel_left,←List.getD_eq_getElem?_getD]
omit m in
theorem w9 {c cx c':Con} (h:c.app cx=some c'):c'.size=c.size+cx.size∧(∀q,q<c.size→c'.cell q=c.cell q)∧ ∀q,c'.cell (c.size+q)=cx.cell q:=by
 have gl: ∀ {α:Type} (xs ys:List α) (d:α) (q:Nat),q<xs.length→(xs++ys).getD q d=xs.getD q d:=fun xs ys d q hq=>by
  simp[List.getD_eq_getElem?_getD,List.getElem?_append,hq]
 have gr: ∀ {α:Type} (xs ys:List α) (d:α) (q:Nat),(xs++ys).getD (xs.length+q) d=ys.getD q d:=fun xs ys d q=>by
  have: ¬xs.length+q<xs.length:=by omega
  simp[List.getD_eq_getElem?_getD,List.getElem?_append,this]
 unfold Con.app at h
 split at h
 ·split at h
  ·rename_i hk;subst hk;injection h with h;subst h
   exact⟨by simp[Con.size],fun q hq=>by simp only[Con.cell];rw[gl _ _ _ _ hq],fun q=>by simp only[Con.cell,Con.size];rw[gr]⟩
  ·cases h
 ·injection h with h;subst h
  exact⟨by simp[Con.size],fun q hq=>by simp only[Con.cell];rw[gl _ _ _ _ hq],fun q=>by simp only[Con.cell,Con.size];rw[gr]⟩
 ·split at h
  ·rename_i hk;subst hk;injection h with h;subst h
   exact⟨by simp[Con.size],fun q hq=>by simp only[Con.cell];rw[gl _ _ _ _ hq],fun q=>by simp only[Con.cell,Con.size];rw[gr]⟩
  ·cases h
 ·injection h with h;subst h
  exact⟨by simp[Con.size],fun q hq=>by simp only[Con.cell];rw[gl _ _ _ _ hq],fun q=>by simp only[Con.cell,Con.size];rw[gr]⟩
 ·injection h with h;subst h;exact rY _ _ _
 ·injection h with h;subst h;exact rY _ _ _
 ·injection h with h;subst h;exact rY _ _ _
 ·injection h with h;subst h;exact rY _ _ _
 ·cases h
theorem kN (hg: ∀id c,get id=.live c→Heap.get h id=.live c) {sz n:Nat} {x:aI} {v:Value} {cx:Con} {o:List Bool} (hw:GW get sz x=some (cx,n,o)) (ho: ∀b∈o,b=true) (hx:CR X w ρ x v):
  ∃(a:Option Addr) (k:Nat) (news:List Value),v=.slice a n k∧news.length=n*sz∧cx.size=n*sz∧(∀q,q<cx.size→CR X w ρ (cx.cell q) (news.getD q undef))∧
   ((∃b,a=some b∧ ∀j u,news[j]? =some u→w.cell? (b.add j)=some u)∨n=0):=by
 have mk: ∀(b base:Nat) (u:Nat→Value) (nn:Nat),(∀q,q<nn→w.cell? ⟨b,base+q,none⟩=some (u q))→
   ∀j x,((List.range nn).map u)[j]? =some x→w.cell? ((⟨b,base,none⟩:Addr).add j)=some x:=by
  intro b base u nn hu j x hj
  rw[dR]
  by_cases h1:j<nn
  ·simp[h1]at hj;rw[←hj];exact hu j h1
  ·simp[h1]at hj
 unfold GW at hw
 split at hw
 ·rename_i nl c len es cap
  cases he:(es==sz)with
  |false=>rw[he]at hw;cases hw
  |true=>
   rw[he]at hw
   have:es=sz:=by simpa using he
   subst this
   injection hw with hw;injection hw with h1 h2;injection h2 with h2 h3;subst h1 h2 h3
   cases hx with
   |view _ _ _ _ _ b base k u hl hc hu hz hk hcap hnl=>
    refine⟨_,k,(List.range (len*es)).map u,rfl,by simp,hz.symm,fun q hq=> ?_,.inl ⟨_,rfl,mk b base u _ (fun q hq=>hc q (by omega))⟩⟩
    have:q<len*es:=by omega
    simpa [List.getD_eq_getElem?_getD,this]using (hu q hq).lift (ρ:=ρ)
   |viewNone _ _ _ _ a k hz hcap hnl hk=>
    exact⟨a,k,[],rfl,by simp,by simpa using hz,fun q hq=>by omega,.inr rfl⟩
 ·rename_i id len es cap
  cases he:(es==sz)with
  |false=>rw[he]at hw;cases hw
  |true=>
   rw[he]at hw
   have:es=sz:=by simpa using he
   subst this
   dsimp only[cond_true]at hw
   split at hw
   ·rename_i c hs
    injection hw with hw;injection hw with h1 h2;injection h2 with h2 h3;subst h1 h2 h3
    have hz:len*es=c.size:=by simpa [dI]using ho _ (List.mem_singleton.2 rfl)
    rcases dQ m (hg _ _ hs) hx with⟨b,k,ty,nn,hb,rfl,⟨cs,ty',hrow,hsz,hcs⟩,hsh,hn,hl,hcap⟩|⟨a,rfl,rfl,hcap⟩
    ·refine⟨_,k,(List.range (len*es)).map (fun q=>cs.getD q undef),rfl,by simp,hz.symm,fun q hq=> ?_,.inl ⟨_,rfl, ?_⟩⟩
     ·have:q<len*es:=by omega
      simpa [List.getD_eq_getElem?_getD,this]using hcs q hq
     ·rw[Nat.zero_mul]
      exact mk b 0 _ _ (fun q hq=>by
       have hq':q<cs.size:=by omega
       simp[World.cell?,hrow,Array.getD,hq'])
    ·exact⟨a,0,[],rfl,by simp,by omega,fun q hq=>by omega,.inr rfl⟩
   ·cases hw
 ·cases hw
theorem Mem.move {id b:Nat} {c:Con} (hr:ρ id=.row b) (hs:Heap.get h id=.live c) (hb:Heap.get h base=.unborn) (hbl:base<h.length):
  bN w ρ w (upd (upd ρ id .dead) base (.row b))∧Mem X w0 M ((h.set id .dead).set base (.live c)) (upd (upd ρ id .dead) base (.row b)) w:=by
 have hne:base≠id:=fun e=>by rw[e,hs]at hb;cases hb
 have hid:id<h.length:=Heap.lt_of_live (by rw[hs];simp)
 have hrb:ρ base=.unborn:=by
  have:=m.slot base;rw[hb]at this
  cases hx:ρ base<;>rw[hx]at this<;>first|rfl|exact this.elim
 have hmono:bN w ρ w (upd (upd ρ id .dead) base (.row b)):=by
  refine⟨fun _ _ _=>rfl,fun _ _=>rfl,Nat.le_refl _,fun j hj=> ?_,fun j hj=> ?_,fun j k hj=> ?_,fun j k hj=> ?_⟩
  ·have h1:j≠base:=fun e=>by rw[e,hrb]at hj;cases hj
   rw[bK _ _ h1]
   by_cases e:j=id
   ·subst e;exact aW _ _ _
   ·rw[bK _ _ e];exact hj
  ·have h1:j≠base:=fun e=>by rw[e,hrb]at hj;cases hj
   rw[bK _ _ h1]
   by_cases e:j=id
   ·subst e;exact .inr (aW _ _ _)
   ·rw[bK _ _ e];exact .inl hj
  ·have h1:j≠base:=fun e=>by rw[e,hrb]at hj;cases hj
   rw[bK _ _ h1]
   by_cases e:j=id
   ·subst e;exact .inr (aW _ _ _)
   ·rw[bK _ _ e];exact .inl hj
  ·by_cases e1:j=base
   ·subst e1;rw[aW]at hj;injection hj with hj;subst hj;exact .inl ⟨id,hr⟩
   ·rw[bK _ _ e1]at hj
    by_cases e:j=id
    ·subst e;rw[aW]at hj;cases hj
    ·rw[bK _ _ e]at hj;exact .inl ⟨j,hj⟩
 have key: ∀j k,upd (upd ρ id .dead) base (.row b) j=.row k→(j=base∧k=b)∨(j≠base∧j≠id∧ρ j=.row k):=by
  intro j k hj
  by_cases e1:j=base
  ·subst e1;rw[aW]at hj;injection hj with hj;exact .inl ⟨rfl,hj.symm⟩
  ·rw[bK _ _ e1]at hj
   by_cases e:j=id
   ·subst e;rw[aW]at hj;cases hj
   ·rw[bK _ _ e]at hj;exact .inr ⟨e1,e,hj⟩
 refine⟨hmono,⟨fun j=> ?_,fun i j k hi hj=> ?_,fun j k hj=> ?_,m.os,m.tape,m.output,m.size,m.keep,m.foreign⟩⟩
 ·rw[Heap.get_set]
  by_cases e1:j=base
  ·subst e1;rw[if_pos ⟨rfl,by simpa using hbl⟩,aW]
   have:=m.slot id;rw[hs,hr]at this
   exact eO.mono (s:=.live c) (x:=.row b) hmono this (fun _ _=>rfl)
  ·rw[if_neg (fun x=>e1 x.1),bK _ _ e1,Heap.get_set]
   by_cases e:j=id
   ·subst e;rw[if_pos ⟨rfl,hid⟩,aW];trivial
   ·rw[if_neg (fun x=>e x.1),bK _ _ e];exact(m.slot j).mono hmono fun _ _=>rfl
 ·rcases key i k hi with⟨rfl,rfl⟩|⟨a1,a2,a3⟩<;>rcases key j _ hj with⟨rfl,hk⟩|⟨b1,b2,b3⟩
  ·rfl
  ·exact absurd (m.inj j id _ b3 hr) b2
  ·subst hk;exact absurd (m.inj i id _ a3 hr) a2
  ·exact m.inj i j k a3 b3
 ·rcases key j k hj with⟨rfl,rfl⟩|⟨a1,a2,a3⟩
  ·exact m.own id _ hr
  ·exact m.own j k a3
omit m in
theorem iT {sz n k:Nat} {a:Option Addr} {news:List Value} (hl:news.length=n*sz) (hr:(∃b,a=some b∧ ∀j u,news[j]? =some u→w.cell? (b.add j)=some u)∨n=0):
  (Builtin.firstCells sz n (.slice a n k)).run P w=.ok news.toArray w:=by
 rcases hr with⟨b,rfl,hc⟩|rfl
 ·have:=run_loadCells_list (P:=P) w b news hc
  rw[hl]at this
  simpa [Builtin.firstCells]using this
 ·have:news=[]:=by apply List.eq_nil_of_length_eq_zero;simpa using hl
  subst this
  cases a<;>simp[Builtin.firstCells,loadCells,loadCellsFrom]
omit m in
theorem kI {t u ty e:TypeId} {e2:TypeId} {ie:TypeInfo} {z:Value} (ht:P.underlying t=some (.slice e)) (hu:P.underlying u=some (.slice e2)) (hi:P.info? e=some ie) (hz:ie.zero=some z)
  {a a':Option Addr} {len cap n k:Nat} {olds news:List Value} (hg:cap<len+n) (hs:(len+n)*ie.bytes≤140737488355328) (h63:len+n≤9223372036854775807)
  (hl:news.length=n*ie.size) (hr:(∃b,a=some b∧ ∀j u,news[j]? =some u→w.cell? (b.add j)=some u)∨n=0)
  (hlo:olds.length=len*ie.size) (hro:(∃b,a'=some b∧ ∀j u,olds[j]? =some u→w.cell? (b.add j)=some u)∨len=0):
  (Builtin.append_ #[t,u] ty #[.slice a' len cap,.slice a n k]).run P w=
   .ok (.slice (some ⟨w.heap.size,0,none⟩) (len+n) (grownCap w (len+n) cap e))
    {w with drawn:=w.drawn+1,heap:=w.heap.push (.cells (olds.toArray++news.toArray++Builtin.zeroCells z.cells (grownCap w (len+n) cap e-(len+n))) e (0,0))}:=by
 have hn: ¬(len+n≤cap):=by omega
 have h63': ¬(9223372036854775807<((len:Int)+(n:Int))):=by omega
 have hfit:=growslice_fits (bytes:=ie.bytes) hg hs
 have h48': ¬(281474976710656<Builtin.nextslicecap (len+n) cap*ie.bytes):=by omega
 have hro':(∃b,a'=some b∧ ∀j u,olds[j]? =some u→({w with drawn:=w.drawn+1}:World).cell? (b.add j)=some u)∨len=0:=hro
 have hr':(∃b,a=some b∧ ∀j u,news[j]? =some u→({w with drawn:=w.drawn+1}:World).cell? (b.add j)=some u)∨n=0:=hr
 have hf:(Builtin.firstCells ie.size n (.slice a n k)).run P w.drew=.ok news.toArray w.drew:=iT (P:=P) (k:=k) hl hr'
 have hfo:(Builtin.firstCells ie.size len (.slice a' len cap)).run P w.drew=.ok olds.toArray w.drew:=iT (P:=P) (k:=cap) hlo hro'
 simp[Builtin.append_,run_underlying ht,run_underlying hu,sizeOf,typeInfo,zeroValue,hi,hz,Builtin.lenOf,hn,h63',h48',Question.forced,grownCap,choose,Sem.run,fZ]
 simp only[hfo,hf,Result.andThen_ok,eH]
 simp only[←List.append_toArray,Array.append_assoc]
 rfl
omit m in
theorem rE {t u ty e:TypeId} {e2:TypeId} {ie:TypeInfo} (ht:P.underlying t=some (.slice e)) (hu:P.underlying u=some (.slice e2)) (hi:P.info? e=some ie)
  {a:Option Addr} {b len cap n k:Nat} {news:List Value} {cs:Array Value} {tz:TypeId} (hg:len+n≤cap)
  (hl:news.length=n*ie.size) (hr:(∃b,a=some b∧ ∀j u,news[j]? =some u→w.cell? (b.add j)=some u)∨n=0)
  (hrow:w.heap[b]? =some (.cells cs tz (0,0))) (hcap:cap*ie.size≤cs.size) (h1: ∀v∈news,v.oneCell'=true):
  (Builtin.append_ #[t,u] ty #[.slice (some ⟨b,0,none⟩) len cap,.slice a n k]).run P w=
   .ok (.slice (some ⟨b,0,none⟩) (len+n) cap) (w.setRow b (cs.toList.take (len*ie.size)++news++cs.toList.drop (len*ie.size+news.length)).toArray):=by
 have hf:(Builtin.firstCells ie.size n (.slice a n k)).run P w=.ok news.toArray w:=iT (P:=P) (k:=k) hl hr
 have hle:(len+n)*ie.size≤cap*ie.size:=Nat.mul_le_mul_right _ hg
 rw[Nat.add_mul]at hle
 have hst:=run_storeCells_at P b (len*ie.size) tz news 0 cs w hrow (by omega) h1
 simp only[Nat.add_zero]at hst
 have hadd:(⟨b,0,none⟩:Addr).add (len*ie.size)=⟨b,len*ie.size,none⟩:=by rw[dR];simp
 simp[Builtin.append_,run_underlying ht,run_underlying hu,sizeOf,typeInfo,hi,Builtin.lenOf,hg,hf,hadd,hst]
omit m in
theorem rC {t u ty e:TypeId} {e2:TypeId} {ie:TypeInfo} (ht:P.underlying t=some (.slice e)) (hu:P.underlying u=some (.slice e2)) (hi:P.info? e=some ie)
  {a a':Option Addr} {k:Nat}:(Builtin.append_ #[t,u] ty #[.slice a' 0 0,.slice a 0 k]).run P w=.ok (.slice a' 0 0) w:=by
 have hf:(Builtin.firstCells ie.size 0 (.slice a 0 k)).run P w=.ok #[] w:=iT (P:=P) (sz:=ie.size) (n:=0) (k:=k) (news:=[]) (by simp) (.inr rfl)
 cases a' with
 |none=>simp[Builtin.append_,run_underlying ht,run_underlying hu,sizeOf,typeInfo,hi,Builtin.lenOf,hf]
 |some a'=>simp[Builtin.append_,run_underlying ht,run_underlying hu,sizeOf,typeInfo,hi,Builtin.lenOf,hf,storeCells]
end
end
section
variable {X : Nat → Prop}
section
variable {P : Program} {tt : Tab} (hT : iK P tt) {w0 w : World} {M : Nat → Prop} {h : List aV} {ρ : Rho} (m : Mem X w0 M h ρ w)
 {get:Get} (hg: ∀id c,get id=.live c→Heap.get h id=.live c) {base:Nat} (hb:Heap.get h base=.unborn) (hbl:base<h.length)
include m
theorem d7.one {id:Nat} {c:Con} (hs:Heap.get h id=.live c):d7 X w0 M h ρ w [(id,.dead)] (upd ρ id .dead):=by
 obtain⟨a,b⟩:=m.kill (id:=id) (by rw[hs];simp)
 exact⟨a,by simpa [cZ]using b,fun j hj=>bK _ _ (fun e=>hj _ (by subst e;exact List.mem_singleton.2 rfl))⟩
theorem nG {a b r:List Value} {c' c cx:Con} (happ:c'.size=c.size+cx.size∧(∀q,q<c.size→c'.cell q=c.cell q)∧ ∀q,c'.cell (c.size+q)=cx.cell q)
  (h1:a.length=c.size) (ha: ∀q,q<c.size→CR X w ρ (c.cell q) (a.getD q undef)) (hx: ∀q,q<cx.size→CR X w ρ (cx.cell q) (b.getD q undef)) (hbl:cx.size≤b.length):
  ∀q,q<c'.size→CR X w ρ (c'.cell q) ((a++b++r).getD q undef):=by
 intro q hq
 rw[happ.1]at hq
 by_cases h2:q<c.size
 ·rw[happ.2.1 q h2]
  have:=ha q h2
  have h3:q<a.length:=by omega
  simpa [List.getD_eq_getElem?_getD,List.getElem?_append,h3,List.append_assoc]using this
 ·have e:q=c.size+(q-c.size):=by omega
  rw[e,happ.2.2]
  have h5:q-c.size<cx.size:=by omega
  have:=hx (q-c.size) h5
  have h3: ¬c.size+(q-c.size)<a.length:=by omega
  have h4:c.size+(q-c.size)-a.length=q-c.size:=by omega
  have h6:q-c.size<b.length:=by omega
  simpa [List.getD_eq_getElem?_getD,List.getElem?_append,h3,h4,h6,List.append_assoc]using this
include hT hg hb hbl in
theorem F1 {t u ty:Nat} {x y:AV} {v vy:Value} (hx:AVR X w ρ x v) (hy:AVR X w ρ y vy) {e:Eff} (he:yE tt get base t u x y=some e) (ho: ∀b∈e.obl,b=true):
  Res X P w0 M h ρ w e (Builtin.append_ #[t,u] ty #[v,vy]):=by
 unfold yE at he
 replace he:=Option.bind_eq_some_iff.1 he
 obtain⟨ti,hti,he⟩:=he
 replace he:=Option.bind_eq_some_iff.1 he
 obtain⟨ui,hui,he⟩:=he
 obtain⟨i,z,d,k⟩:=bR hT hti
 obtain⟨i2,z2,d2,k2⟩:=bR hT hui
 have hdesc:=k.desc
 have hdesc2:=k2.desc
 split at he
 ·rename_i e' e2' s xx hfs hfu
  rw[hfs]at hdesc
  rw[hfu]at hdesc2
  cases d<;>simp only[fH]at hdesc<;>try (simp at hdesc;done)
  rename_i e1
  simp only[Bool.and_eq_true,rpS,decide_eq_true_eq]at hdesc
  obtain⟨hee,hag⟩:=hdesc
  subst hee
  cases d2<;>simp only[fH]at hdesc2<;>try (simp at hdesc2;done)
  rename_i e2
  replace he:=Option.bind_eq_some_iff.1 he
  obtain⟨te,hte,he⟩:=he
  obtain⟨i',z',d',k'⟩:=bR hT hte
  split at he
  ·rename_i hsm
   obtain⟨hbytes,hsize⟩:=hsm
   replace he:=Option.bind_eq_some_iff.1 he
   obtain⟨⟨cx,n,ox⟩,hw,he⟩:=he
   have hwo: ∀(l:List Bool),e.obl=ox++l→ ∀b∈ox,b=true:=fun l hl b hb=>ho b (by rw[hl];exact List.mem_append_left _ hb)
   have hby:i'.bytes≤256:=by rw[k'.bytes];exact hbytes
   have fresh: ∀(a':Option Addr) (sets:List (Nat×aV)) (cc:Con),cc.size=cx.size→(∀q,cc.cell q=cx.cell q)→v=.slice a' 0 0→e= {val:=.c (.sl base 0 n te.size none),sets:=sets++[(base,.live cc)],obl:=e.obl}→
     (∀wd,Mem X w0 M h ρ wd→ ∃ρ1,d7 X w0 M h ρ wd sets ρ1)→(∀s,(base,s)∉sets)→(∀b∈ox,b=true)→n≤274877906944→Res X P w0 M h ρ w e (Builtin.append_ #[t,u] ty #[v,vy]):=by
    intro a' sets cc hccs hccc hv hee hk hbs hox hn
    obtain⟨a,kk,news,rfl,n1,n2,n3,n4⟩:=kN m hg hw hox (cO hy)
    subst hv
    rw[hee]
    by_cases h0:n=0
    ·subst h0
     obtain⟨ρ1,k1⟩:=hk w m
     have hcs:cx.size=0:=by simpa using n2
     obtain⟨g1,g2⟩:=k1.mem.allocNil (id:=base) (by rw[dN _ _ _ hbs];exact hb) (by rw[eJ];exact hbl) cc (by rw[hccs];exact hcs)
     refine⟨_,w,_,rC k.und k2.und k'.info,k1.mono.trans g1,by rw[hX];simpa [cZ]using g2, ?_⟩
     exact .c _ _ (.slNone base 0 te.size none a' (by rw[aW];simp) (fun _ h=>by cases h))
    ·have hb2:(0+n)*i'.bytes≤140737488355328:=by
      have:n*i'.bytes≤274877906944*256:=Nat.mul_le_mul hn hby
      rw[Nat.zero_add];omega
     have hrun:=kI (P:=P) (ty:=ty) k.und k2.und k'.info k'.zero (a:=a) (a':=a') (len:=0) (cap:=0) (n:=n) (k:=kk) (olds:=[]) (news:=news) (w:=w) (by omega) hb2 (by omega)
      (by rw[k'.size];exact n1) n4 (by simp) (.inr rfl)
     rw[Nat.zero_add]at hrun
     obtain⟨ρ1,k1⟩:=hk _ (m.draw (w.drawn+1))
     obtain⟨g1,g2⟩:=nM (h:=h) (ρ:=ρ) (w:= {w with drawn:=w.drawn+1}) (m.draw (w.drawn+1)) hb hbl k1 (c:=cc)
      (cs:=(([]:List Value).toArray++news.toArray++Builtin.zeroCells z'.cells (grownCap w n 0 e1-n))) e1 (by rw[hccs];simp;omega) (fun q hq=>by
       rw[hccs]at hq;rw[hccc]
       have:=(n3 q hq).mono (bN.draw w ρ (w.drawn+1))
       have hq2:q<news.length:=by omega
       have:=this.mono k1.mono
       simpa [Array.getD_eq_getD_getElem?,List.getD_eq_getElem?_getD,Array.getElem?_append,hq2]using this) hbs
     refine⟨_,_,_,hrun,(bN.draw w ρ (w.drawn+1)).trans g1,g2, ?_⟩
     refine mR (ty:=e1) (cs:=(([]:List Value).toArray++news.toArray++Builtin.zeroCells z'.cells (grownCap w n 0 e1-n))) (aW _ _ _) (by simp) ?_ ?_ (fun _ h=>by cases h)
     ·exact grownCap_ge w n 0 e1
     ·have h1:=grownCap_ge w n 0 e1
      simp only[Array.size_append,size_zeroCells,List.size_toArray,List.length_nil,vG k',n1]
      have:grownCap w n 0 e1*te.size=n*te.size+(grownCap w n 0 e1-n)*te.size:=by
       rw[←Nat.add_mul];congr 1;omega
      omega
   have hbase: ∀id c,get id=.live c→base≠id:=fun id c hc e=>by
    have:=hg _ _ hc;rw[←e,hb]at this;cases this
   dsimp only at he
   split at he
   ·injection he with he
    subst he
    refine fresh none [] cx rfl (fun _=>rfl) (by cases cO hx;rfl) rfl (fun wd md=>⟨ρ,d7.nil md⟩) (fun s hs=>by cases hs) (hwo _ rfl) (by simpa using ho (decide (n≤274877906944)) (by simp))
   ·injection he with he
    subst he
    have hv: ∃a',v=.slice a' 0 0:=by
     cases cO hx with
     |view _ _ _ _ _ b bb kk u hl hc hu hz hk hcap hnl=>have:=hcap 0 rfl;subst this;exact⟨_,rfl⟩
     |viewNone _ _ _ _ a kk hz hcap hnl hk=>have:=hcap 0 rfl;subst this;exact⟨_,rfl⟩
    obtain⟨a',hv⟩:=hv
    exact fresh a' [] cx rfl (fun _=>rfl) hv rfl (fun wd md=>⟨ρ,d7.nil md⟩) (fun s hs=>by cases hs) (hwo _ rfl) (by simpa using ho (decide (n≤274877906944)) (by simp))
   ·rename_i id len es cap
    cases hes:(es==te.size)with
    |false=>rw[hes]at he;cases he
    |true=>
    rw[hes]at he
    have hes':es=te.size:=by simpa using hes
    subst hes'
    dsimp only[cond_true]at he
    split at he
    ·rename_i c hs
     split at he
     ·rename_i c' happ
      injection he with he
      subst he
      have hox:=hwo _ rfl
      have hz:len*te.size=c.size:=by simpa [dI]using ho (decide (ix len te.size 0=c.size)) (by simp)
      have hlen:len+n≤274877906944:=by simpa using ho (decide (len+n≤274877906944)) (by simp)
      have hs':=hg _ _ hs
      have happ':=w9 happ
      have hbn: ∀s,(base,s)∉[(id,aV.dead)]:=fun s hm=>by simp at hm;exact hbase _ _ hs hm.1
      rcases dQ m hs' (cO hx)with⟨b,kk,ty',nn,hrb,rfl,⟨cs,ty2,hrow,hsz,hcs⟩,hsh,hnn,hl,hcap⟩|⟨a',rfl,rfl,hcap⟩
      ·obtain⟨a,k3,news,rfl,n1,n2,n3,n4⟩:=kN m hg hw hox (cO hy)
       have hcsz:kk*te.size≤cs.size:=by
        have:w.shape? b=some (ty2,cs.size):=by simp[World.shape?,hrow]
        rw[this]at hsh;injection hsh with hsh;injection hsh with h1 h2
        rw[Nat.zero_add]at hnn;omega
       have holds: ∀q,q<c.size→CR X w ρ (c.cell q) ((cs.toList.take (len*te.size)).getD q undef):=fun q hq=>by
        have:=hcs q hq
        have h1:q<len*te.size:=by omega
        simpa [List.getD_eq_getElem?_getD,List.getElem?_take,h1,Array.getD_eq_getD_getElem?]using this
       have hlt:(cs.toList.take (len*te.size)).length=c.size:=by simp;omega
       by_cases hroom:len+n≤kk
       ·
        have hrun:=rE (P:=P) (ty:=ty) k.und k2.und k'.info (a:=a) (b:=b) (len:=len) (cap:=kk) (n:=n) (k:=k3) (news:=news) (w:=w) hroom
         (by rw[k'.size];exact n1) n4 hrow (by rw[k'.size];exact hcsz) (fun v hv=>by
          obtain⟨j,hj,rfl⟩:=List.getElem_of_mem hv
          have:=(n3 j (by omega)).one
          simpa [List.getD_eq_getElem?_getD,hj]using this)
        rw[k'.size]at hrun
        obtain⟨g1,g2⟩:=Mem.move m hrb hs' hb hbl
        have hroomsz:(len+n)*te.size≤kk*te.size:=Nat.mul_le_mul_right _ hroom
        rw[Nat.add_mul]at hroomsz
        obtain⟨g3,g4⟩:=g2.write (aW _ _ _) c' cs (cs.toList.take (len*te.size)++news++cs.toList.drop (len*te.size+news.length)).toArray ty2 hrow
         (by simp;omega) (by rw[happ'.1];simp;omega) (fun q hq=>by
          have:=nG m (r:=cs.toList.drop (len*te.size+news.length)) happ' hlt holds n3 (by omega) q hq
          have:=this.mono g1
          simpa [Array.getD_eq_getD_getElem?,List.getD_eq_getElem?_getD]using this)
        refine⟨_,_,_,by rw[Nat.zero_mul];exact hrun,g1.trans g3, ?_, ?_⟩
        ·simpa [cZ,List.set_set]using g4
        ·exact mR (ty:=ty2) (aW _ _ _) (setRow_heap w b cs _ ty2 (0,0) hrow) hroom (by simp;omega) (fun _ h=>by cases h)
       ·
        have hb2:(len+n)*i'.bytes≤140737488355328:=by
         have:(len+n)*i'.bytes≤274877906944*256:=Nat.mul_le_mul hlen hby
         omega
        have hrun:=kI (P:=P) (ty:=ty) k.und k2.und k'.info k'.zero (a:=a) (a':=some ⟨b,0,none⟩) (len:=len) (cap:=kk) (n:=n) (k:=k3) (olds:=cs.toList.take (len*te.size)) (news:=news) (w:=w)
         (by omega) hb2 (by omega) (by rw[k'.size];exact n1) n4 (by rw[k'.size,hlt];omega) (.inl ⟨_,rfl,fun j u hj=>by
          rw[dR]
          rw[List.getElem?_take]at hj
          split at hj
          ·simp[World.cell?,hrow]at hj⊢;exact hj
          ·cases hj⟩)
        have k1:=d7.one (m.draw (w.drawn+1)) hs'
        obtain⟨g1,g2⟩:=nM (h:=h) (ρ:=ρ) (w:= {w with drawn:=w.drawn+1}) (m.draw (w.drawn+1)) hb hbl k1 (c:=c')
         (cs:=((cs.toList.take (len*te.size)).toArray++news.toArray++Builtin.zeroCells z'.cells (grownCap w (len+n) kk e1-(len+n)))) e1 (by rw[happ'.1];simp;omega) (fun q hq=>by
          have:=nG m (r:=(Builtin.zeroCells z'.cells (grownCap w (len+n) kk e1-(len+n))).toList) happ' hlt holds n3 (by omega) q hq
          have:=(this.mono (bN.draw w ρ (w.drawn+1))).mono k1.mono
          rw[show((cs.toList.take (len*te.size)).toArray++news.toArray++Builtin.zeroCells z'.cells (grownCap w (len+n) kk e1-(len+n)))=
           (cs.toList.take (len*te.size)++news++(Builtin.zeroCells z'.cells (grownCap w (len+n) kk e1-(len+n))).toList).toArray from by simp]
          simpa only[Array.getD_eq_getD_getElem?,List.getD_eq_getElem?_getD,List.getElem?_toArray]using this) hbn
        refine⟨_,_,_,by rw[Nat.zero_mul];exact hrun,(bN.draw w ρ (w.drawn+1)).trans g1,g2, ?_⟩
        refine mR (ty:=e1) (cs:=((cs.toList.take (len*te.size)).toArray++news.toArray++Builtin.zeroCells z'.cells (grownCap w (len+n) kk e1-(len+n)))) (aW _ _ _) (by simp) (grownCap_ge _ _ _ _) ?_ (fun _ h=>by cases h)
        have h1:=grownCap_ge w (len+n) kk e1
        simp only[Array.size_append,size_zeroCells,List.size_toArray,hlt,vG k',n1]
        have:grownCap w (len+n) kk e1*te.size=(len+n)*te.size+(grownCap w (len+n) kk e1-(len+n))*te.size:=by
         rw[←Nat.add_mul];congr 1;omega
        rw[this,Nat.add_mul]
        omega
      ·
       have hc0:c.size=0:=by omega
       have hcell: ∀q,c'.cell q=cx.cell q:=fun q=>by have:=happ'.2.2 q;rwa[hc0,Nat.zero_add]at this
       have hsz':c'.size=cx.size:=by rw[happ'.1,hc0,Nat.zero_add]
       exact fresh a' [(id,.dead)] c' hsz' hcell rfl (by simp) (fun wd md=>⟨_,d7.one md hs'⟩) hbn hox (by omega)
     ·cases he
    ·cases he
   ·cases he
  ·cases he
 ·cases he
omit m in
theorem jN {t u ty e:TypeId} {ku:IntKind} {ie:TypeInfo} {z:Value} (ht:P.underlying t=some (.slice e)) (hu:P.underlying u=some (.int ku)) (hi:P.info? e=some ie) (hz:ie.zero=some z)
  {a':Option Addr} {len cap n:Nat} {kx:IntKind} {olds:List Value} (hg:cap<len+n) (hs:(len+n)*ie.bytes≤140737488355328) (h63:len+n≤9223372036854775807) (hby:ie.bytes≤256) (hn38:n≤274877906944)
  (hzs:z.cells.size=ie.size)
  (hlo:olds.length=len*ie.size) (hro:(∃b,a'=some b∧ ∀j u,olds[j]? =some u→w.cell? (b.add j)=some u)∨len=0):
  (Builtin.append_ #[t,u] ty #[.slice a' len cap,.int kx (n:Int)]).run P w=
   .ok (.slice (some ⟨w.heap.size,0,none⟩) (len+n) (grownCap w (len+n) cap e))
    {w with drawn:=w.drawn+1,heap:=w.heap.push (.cells (olds.toArray++Builtin.zeroCells z.cells n++Builtin.zeroCells z.cells (grownCap w (len+n) cap e-(len+n))) e (0,0))}:=by
 have hn: ¬(len+n≤cap):=by omega
 have h63': ¬(9223372036854775807<((len:Int)+(n:Int))):=by omega
 have hfit:=growslice_fits (bytes:=ie.bytes) hg hs
 have h48': ¬(281474976710656<Builtin.nextslicecap (len+n) cap*ie.bytes):=by omega
 have hro':(∃b,a'=some b∧ ∀j u,olds[j]? =some u→({w with drawn:=w.drawn+1}:World).cell? (b.add j)=some u)∨len=0:=hro
 have hfo:(Builtin.firstCells ie.size len (.slice a' len cap)).run P w.drew=.ok olds.toArray w.drew:=iT (P:=P) (k:=cap) hlo hro'
 have hw:IntKind.i64.wrap (n:Int)=n:=oE (by omega) (by omega)
 have hn0: ¬(n:Int)<0:=by omega
 have hbc: ¬(281474976710656:Int)<(n:Int)*ie.bytes:=by
  have h2:(n:Int)*ie.bytes≤n*256:=Int.mul_le_mul_of_nonneg_left (by omega) (by omega)
  omega
 by_cases hz0:n*ie.size=0
 ·have e0:Builtin.zeroCells z.cells n= #[]:=Array.eq_empty_of_size_eq_zero (by rw[size_zeroCells,hzs];exact hz0)
  simp[Builtin.append_,run_underlying ht,run_underlying hu,sizeOf,typeInfo,zeroValue,hi,hz,asInt,asIntOf,hw,hn0,hbc,hn,h63',h48',Question.forced,grownCap,choose,Sem.run,fZ]
  simp only[hfo,Result.andThen_ok]
  rw[if_pos hz0]
  simp only[eH,e0]
  simp
  and_intros<;>rfl
 ·simp[Builtin.append_,run_underlying ht,run_underlying hu,sizeOf,typeInfo,zeroValue,hi,hz,asInt,asIntOf,hw,hn0,hbc,hn,h63',h48',Question.forced,grownCap,choose,Sem.run,fZ]
  simp only[hfo,Result.andThen_ok]
  rw[if_neg hz0]
  simp[hi,hz,eH]
  and_intros<;>rfl
omit m in
theorem pK {t u ty e:TypeId} {ku:IntKind} {ie:TypeInfo} {z:Value} (ht:P.underlying t=some (.slice e)) (hu:P.underlying u=some (.int ku)) (hi:P.info? e=some ie) (hz:ie.zero=some z)
  {b len cap n:Nat} {kx:IntKind} {cs:Array Value} {tz:TypeId} (hg:len+n≤cap) (hby:ie.bytes≤256) (hn38:n≤274877906944) (hzs:z.cells.size=ie.size)
  (hrow:w.heap[b]? =some (.cells cs tz (0,0))) (hcap:cap*ie.size≤cs.size) (h1: ∀v∈(Builtin.zeroCells z.cells n).toList,v.oneCell'=true):
  (Builtin.append_ #[t,u] ty #[.slice (some ⟨b,0,none⟩) len cap,.int kx (n:Int)]).run P w=
   .ok (.slice (some ⟨b,0,none⟩) (len+n) cap) (w.setRow b (cs.toList.take (len*ie.size)++(Builtin.zeroCells z.cells n).toList++cs.toList.drop (len*ie.size+(Builtin.zeroCells z.cells n).toList.length)).toArray):=by
 have hle:(len+n)*ie.size≤cap*ie.size:=Nat.mul_le_mul_right _ hg
 rw[Nat.add_mul]at hle
 have hl:(Builtin.zeroCells z.cells n).toList.length=n*ie.size:=by rw[Array.length_toList,size_zeroCells,hzs]
 have hst:=run_storeCells_at P b (len*ie.size) tz (Builtin.zeroCells z.cells n).toList 0 cs w hrow (by omega) h1
 simp only[Nat.add_zero]at hst
 have hadd:(⟨b,0,none⟩:Addr).add (len*ie.size)=⟨b,len*ie.size,none⟩:=by rw[dR];simp
 have hw:IntKind.i64.wrap (n:Int)=n:=oE (by omega) (by omega)
 have hn0: ¬(n:Int)<0:=by omega
 have hbc: ¬(281474976710656:Int)<(n:Int)*ie.bytes:=by
  have h2:(n:Int)*ie.bytes≤n*256:=Int.mul_le_mul_of_nonneg_left (by omega) (by omega)
  omega
 by_cases hz0:n*ie.size=0
 ·have e0:Builtin.zeroCells z.cells n= #[]:=Array.eq_empty_of_size_eq_zero (by rw[size_zeroCells,hzs];exact hz0)
  rw[e0]at hst⊢
  simp[Builtin.append_,run_underlying ht,run_underlying hu,sizeOf,typeInfo,zeroValue,hi,hz,asInt,asIntOf,hw,hn0,hbc,hg]
  rw[if_pos hz0]
  simp[hadd]
  simp at hst
  rw[hst]
  simp
 ·simp[Builtin.append_,run_underlying ht,run_underlying hu,sizeOf,typeInfo,zeroValue,hi,hz,asInt,asIntOf,hw,hn0,hbc,hg]
  rw[if_neg hz0]
  simp[hi,hz,hadd]
  simp at hst
  rw[hst]
  simp
omit m in
theorem pJ {t u ty e:TypeId} {ku:IntKind} {ie:TypeInfo} (ht:P.underlying t=some (.slice e)) (hu:P.underlying u=some (.int ku)) (hi:P.info? e=some ie)
  {a':Option Addr} {kx:IntKind}:(Builtin.append_ #[t,u] ty #[.slice a' 0 0,.int kx (0:Int)]).run P w=.ok (.slice a' 0 0) w:=by
 have hw:IntKind.i64.wrap (0:Int)=0:=oE (by omega) (by omega)
 cases a' with
 |none=>simp[Builtin.append_,run_underlying ht,run_underlying hu,sizeOf,typeInfo,hi,asInt,asIntOf,hw]
 |some a'=>simp[Builtin.append_,run_underlying ht,run_underlying hu,sizeOf,typeInfo,hi,asInt,asIntOf,hw,storeCells]
include hT hg hb hbl in
theorem BR {t u ty:Nat} {x:AV} {v vy:Value} {kx:IntKind} {nI:Int} (hx:AVR X w ρ x v) (hy:AVR X w ρ (.c (.int kx nI)) vy) {e:Eff} (he:sN tt get base t u x nI=some e) (ho: ∀b∈e.obl,b=true):
  Res X P w0 M h ρ w e (Builtin.append_ #[t,u] ty #[v,vy]):=by
 unfold sN at he
 replace he:=Option.bind_eq_some_iff.1 he
 obtain⟨ti,hti,he⟩:=he
 replace he:=Option.bind_eq_some_iff.1 he
 obtain⟨ui,hui,he⟩:=he
 obtain⟨i,z,d,k⟩:=bR hT hti
 obtain⟨i2,z2,d2,k2⟩:=bR hT hui
 have hdesc:=k.desc
 have hdesc2:=k2.desc
 obtain rfl:=dJ hy
 split at he
 ·rename_i e' ku id len es cap hfs hfu
  rw[hfs]at hdesc
  rw[hfu]at hdesc2
  cases d<;>simp only[fH]at hdesc<;>try (simp at hdesc;done)
  rename_i e1
  simp only[Bool.and_eq_true,rpS,decide_eq_true_eq]at hdesc
  obtain⟨hee,hag⟩:=hdesc
  subst hee
  cases d2<;>simp only[fH]at hdesc2<;>try (simp at hdesc2;done)
  rename_i ku2
  replace he:=Option.bind_eq_some_iff.1 he
  obtain⟨te,hte,he⟩:=he
  obtain⟨i',z',d',k'⟩:=bR hT hte
  split at he
  ·rename_i hsm
   obtain⟨hbytes,hsize,hes⟩:=hsm
   subst hes
   replace he:=Option.bind_eq_some_iff.1 he
   obtain⟨cx,hcx,he⟩:=he
   have hby:i'.bytes≤256:=by rw[k'.bytes];exact hbytes
   split at he
   ·rename_i c hs
    split at he
    ·rename_i c' happ
     injection he with he
     subst he
     have o1:0≤nI:=by simpa using ho (decide (0≤nI)) (by simp)
     obtain⟨n,rfl⟩:=Int.eq_ofNat_of_zero_le o1
     have hz:len*te.size=c.size:=by simpa [dI]using ho (decide (ix len te.size 0=c.size)) (by simp)
     have hlen':(len:Int)+(n:Int)≤274877906944:=by simpa using ho (decide ((len:Int)+(n:Int)≤274877906944)) (by simp)
     have hlen:len+n≤274877906944:=by omega
     simp only[Int.toNat_natCast]at hcx
     obtain⟨z1,z2⟩:=lY hcx
     have hzl:te.zero.length=te.size:=k'.zl
     have hp:0<te.zero.length:=by omega
     have hlr:=kO (X:=X) (i7 k' w ρ) hp n
     rw[hzl]at hlr z1
     have hzs:z'.cells.size=i'.size:=by rw[vG k',k'.size]
     have n1:(Builtin.zeroCells z'.cells n).size=n*te.size:=by rw[size_zeroCells,vG k']
     have n3: ∀q,q<cx.size→CR X w ρ (cx.cell q) ((Builtin.zeroCells z'.cells n).toList.getD q undef):=fun q hq=>by
      have:=z2 hlr q hq
      have hq2:q<n*te.size:=by omega
      simpa [Builtin.zeroCells,vG k',List.getD_eq_getElem?_getD,hq2]using this
     have hs':=hg _ _ hs
     have happ':=w9 happ
     have hbase:base≠id:=fun e=>by rw[←e,hb]at hs';cases hs'
     have hbn: ∀s,(base,s)∉[(id,aV.dead)]:=fun s hm=>by simp at hm;exact hbase hm.1
     rcases dQ m hs' (cO hx)with⟨b,kk,ty',nn,hrb,rfl,⟨cs,ty2,hrow,hsz,hcs⟩,hsh,hnn,hl,hcap⟩|⟨a',rfl,rfl,hcap⟩
     ·have hcsz:kk*te.size≤cs.size:=by
       have:w.shape? b=some (ty2,cs.size):=by simp[World.shape?,hrow]
       rw[this]at hsh;injection hsh with hsh;injection hsh with h1 h2
       rw[Nat.zero_add]at hnn;omega
      have holds: ∀q,q<c.size→CR X w ρ (c.cell q) ((cs.toList.take (len*te.size)).getD q undef):=fun q hq=>by
       have:=hcs q hq
       have h1:q<len*te.size:=by omega
       simpa [List.getD_eq_getElem?_getD,List.getElem?_take,h1,Array.getD_eq_getD_getElem?]using this
      have hlt:(cs.toList.take (len*te.size)).length=c.size:=by simp;omega
      by_cases hroom:len+n≤kk
      ·have hrun:=pK (P:=P) (ty:=ty) k.und k2.und k'.info k'.zero (b:=b) (len:=len) (cap:=kk) (n:=n) (kx:=kx) (w:=w) hroom hby (by omega) hzs hrow (by rw[k'.size];exact hcsz) (fun v hv=>by
         obtain⟨j,hj,rfl⟩:=List.getElem_of_mem hv
         have hj':j<(Builtin.zeroCells z'.cells n).size:=by simpa using hj
         have:=(n3 j (by omega)).one
         simpa [List.getD_eq_getElem?_getD,hj']using this)
       rw[k'.size]at hrun
       obtain⟨g1,g2⟩:=Mem.move m hrb hs' hb hbl
       have hroomsz:(len+n)*te.size≤kk*te.size:=Nat.mul_le_mul_right _ hroom
       rw[Nat.add_mul]at hroomsz
       obtain⟨g3,g4⟩:=g2.write (aW _ _ _) c' cs (cs.toList.take (len*te.size)++(Builtin.zeroCells z'.cells n).toList++cs.toList.drop (len*te.size+(Builtin.zeroCells z'.cells n).toList.length)).toArray ty2 hrow
        (by simp;omega) (by rw[happ'.1];simp;omega) (fun q hq=>by
         have:=nG m (r:=cs.toList.drop (len*te.size+(Builtin.zeroCells z'.cells n).toList.length)) happ' hlt holds n3 (by simp;omega) q hq
         have:=this.mono g1
         simpa [Array.getD_eq_getD_getElem?,List.getD_eq_getElem?_getD]using this)
       refine⟨_,_,_,by rw[Nat.zero_mul];exact hrun,g1.trans g3, ?_, ?_⟩
       ·simpa [cZ,List.set_set]using g4
       ·exact mR (ty:=ty2) (aW _ _ _) (setRow_heap w b cs _ ty2 (0,0) hrow) hroom (by simp;omega) (fun _ h=>by cases h)
      ·have hb2:(len+n)*i'.bytes≤140737488355328:=by
        have:(len+n)*i'.bytes≤274877906944*256:=Nat.mul_le_mul hlen hby
        omega
       have hrun:=jN (P:=P) (ty:=ty) k.und k2.und k'.info k'.zero (a':=some ⟨b,0,none⟩) (len:=len) (cap:=kk) (n:=n) (kx:=kx) (olds:=cs.toList.take (len*te.size)) (w:=w)
        (by omega) hb2 (by omega) hby (by omega) hzs (by rw[k'.size,hlt];omega) (.inl ⟨_,rfl,fun j u hj=>by
         rw[dR]
         rw[List.getElem?_take]at hj
         split at hj
         ·simp[World.cell?,hrow]at hj⊢;exact hj
         ·cases hj⟩)
       have k1:=d7.one (m.draw (w.drawn+1)) hs'
       obtain⟨g1,g2⟩:=nM (h:=h) (ρ:=ρ) (w:= {w with drawn:=w.drawn+1}) (m.draw (w.drawn+1)) hb hbl k1 (c:=c')
        (cs:=((cs.toList.take (len*te.size)).toArray++Builtin.zeroCells z'.cells n++Builtin.zeroCells z'.cells (grownCap w (len+n) kk e1-(len+n)))) e1 (by rw[happ'.1];simp;omega) (fun q hq=>by
         have:=nG m (r:=(Builtin.zeroCells z'.cells (grownCap w (len+n) kk e1-(len+n))).toList) happ' hlt holds n3 (by simp;omega) q hq
         have:=(this.mono (bN.draw w ρ (w.drawn+1))).mono k1.mono
         rw[show((cs.toList.take (len*te.size)).toArray++Builtin.zeroCells z'.cells n++Builtin.zeroCells z'.cells (grownCap w (len+n) kk e1-(len+n)))=
          (cs.toList.take (len*te.size)++(Builtin.zeroCells z'.cells n).toList++(Builtin.zeroCells z'.cells (grownCap w (len+n) kk e1-(len+n))).toList).toArray from by simp]
         simpa only[Array.getD_eq_getD_getElem?,List.getD_eq_getElem?_getD,List.getElem?_toArray]using this) hbn
       refine⟨_,_,_,by rw[Nat.zero_mul];exact hrun,(bN.draw w ρ (w.drawn+1)).trans g1,g2, ?_⟩
       refine mR (ty:=e1) (cs:=((cs.toList.take (len*te.size)).toArray++Builtin.zeroCells z'.cells n++Builtin.zeroCells z'.cells (grownCap w (len+n) kk e1-(len+n)))) (aW _ _ _) (by simp) (grownCap_ge _ _ _ _) ?_ (fun _ h=>by cases h)
       have h1:=grownCap_ge w (len+n) kk e1
       simp only[Array.size_append,size_zeroCells,List.size_toArray,hlt,vG k']
       have:grownCap w (len+n) kk e1*te.size=(len+n)*te.size+(grownCap w (len+n) kk e1-(len+n))*te.size:=by
        rw[←Nat.add_mul];congr 1;omega
       rw[this,Nat.add_mul]
       omega
     ·have hc0:c.size=0:=by omega
      have hcell: ∀q,c'.cell q=cx.cell q:=fun q=>by have:=happ'.2.2 q;rwa[hc0,Nat.zero_add]at this
      have hsz':c'.size=cx.size:=by rw[happ'.1,hc0,Nat.zero_add]
      by_cases h0:n=0
      ·subst h0
       have k1:=d7.one m hs'
       obtain⟨g1,g2⟩:=k1.mem.allocNil (id:=base) (by rw[dN _ _ _ hbn];exact hb) (by rw[eJ];exact hbl) c' (by rw[hsz'];simpa using z1)
       refine⟨_,w,_,pJ k.und k2.und k'.info,k1.mono.trans g1,by simpa [cZ]using g2, ?_⟩
       exact .c _ _ (.slNone base 0 te.size none a' (by rw[aW];simp) (fun _ h=>by cases h))
      ·have hb2:(0+n)*i'.bytes≤140737488355328:=by
        have:n*i'.bytes≤274877906944*256:=Nat.mul_le_mul (by omega) hby
        rw[Nat.zero_add];omega
       have hrun:=jN (P:=P) (ty:=ty) k.und k2.und k'.info k'.zero (a':=a') (len:=0) (cap:=0) (n:=n) (kx:=kx) (olds:=[]) (w:=w) (by omega) hb2 (by omega) hby (by omega) hzs (by simp) (.inr rfl)
       rw[Nat.zero_add]at hrun
       have k1:=d7.one (m.draw (w.drawn+1)) hs'
       obtain⟨g1,g2⟩:=nM (h:=h) (ρ:=ρ) (w:= {w with drawn:=w.drawn+1}) (m.draw (w.drawn+1)) hb hbl k1 (c:=c')
        (cs:=(([]:List Value).toArray++Builtin.zeroCells z'.cells n++Builtin.zeroCells z'.cells (grownCap w n 0 e1-n))) e1 (by rw[hsz'];simp;omega) (fun q hq=>by
         rw[hsz']at hq;rw[hcell]
         have:=(n3 q hq).mono (bN.draw w ρ (w.drawn+1))
         have:=this.mono k1.mono
         have hq2:q<(Builtin.zeroCells z'.cells n).size:=by omega
         simpa [Array.getD_eq_getD_getElem?,List.getD_eq_getElem?_getD,Array.getElem?_append,hq2]using this) hbn
       refine⟨_,_,_,hrun,(bN.draw w ρ (w.drawn+1)).trans g1,g2, ?_⟩
       simp only[Int.toNat_natCast,Nat.zero_add]
       refine mR (ty:=e1) (cs:=(([]:List Value).toArray++Builtin.zeroCells z'.cells n++Builtin.zeroCells z'.cells (grownCap w n 0 e1-n))) (aW _ _ _) (by simp) ?_ ?_ (fun _ h=>by cases h)
       ·exact grownCap_ge w n 0 e1
       ·have h1:=grownCap_ge w n 0 e1
        simp only[Array.size_append,size_zeroCells,List.size_toArray,List.length_nil,vG k']
        have:grownCap w n 0 e1*te.size=n*te.size+(grownCap w n 0 e1-n)*te.size:=by
         rw[←Nat.add_mul];congr 1;omega
        omega
    ·cases he
   ·cases he
  ·cases he
 ·cases he
end
end
section
variable {X : Nat → Prop}
section
variable {P : Program} {tt : Tab} (hT : iK P tt) {w0 w : World} {M : Nat → Prop} {h : List aV} {ρ : Rho} (m : Mem X w0 M h ρ w)
 {get:Get} (hg: ∀id c,get id=.live c→Heap.get h id=.live c)
include m
omit m in
theorem c7 {t:Nat} {ti:TI} {i:TypeInfo} {z:Value} {d:TypeDesc} {e:Nat} (k:iJ P t ti i z d) (hd:ti.desc=.slice e):P.underlying t=some (.slice e):=by
 have:=k.desc;rw[hd]at this
 cases d<;>simp only[fH]at this<;>try (simp at this;done)
 simp only[Bool.and_eq_true,rpS,decide_eq_true_eq]at this
 rw[k.und,this.1]
omit m in
theorem fX {t:Nat} {ti:TI} {i:TypeInfo} {z:Value} {d:TypeDesc} {n e:Nat} (k:iJ P t ti i z d) (hd:ti.desc=.arr n e):P.underlying t=some (.array n e):=by
 have:=k.desc;rw[hd]at this
 cases d<;>simp only[fH]at this<;>try (simp at this;done)
 simp only[Bool.and_eq_true,rpS,decide_eq_true_eq]at this
 rw[k.und,this.1.1,this.1.2]
omit m in
theorem iO {t:Nat} {ti:TI} {i:TypeInfo} {z:Value} {d:TypeDesc} (k:iJ P t ti i z d) (hd:ti.desc=.str):P.underlying t=some .string:=by
 have:=k.desc;rw[hd]at this
 cases d<;>simp only[fH]at this<;>first|(simp at this;done)|exact k.und
omit m in
theorem HH {t:Nat} {ti:TI} {i:TypeInfo} {z:Value} {d:TypeDesc} (k:iJ P t ti i z d) (hd:ti.desc=.bool):P.underlying t=some .bool:=by
 have:=k.desc;rw[hd]at this
 cases d<;>simp only[fH]at this<;>first|(simp at this;done)|exact k.und
omit m in
theorem iN {t:Nat} {ti:TI} {i:TypeInfo} {z:Value} {d:TypeDesc} {kk:IntKind} (k:iJ P t ti i z d) (hd:ti.desc=.int kk):P.underlying t=some (.int kk):=by
 have:=k.desc;rw[hd]at this
 cases d<;>simp only[fH]at this<;>try (simp at this;done)
 simp only[Bool.and_eq_true,rpS,decide_eq_true_eq]at this
 rw[k.und,this.1]
omit m in
theorem jZ {t:Nat} {ti:TI} {i:TypeInfo} {z:Value} {d:TypeDesc} {l:List (Nat×Nat)} (k:iJ P t ti i z d) (hd:ti.desc=.struct l):
  ∃fs:Array Go.Field,P.underlying t=some (.struct fs)∧fs.toList.map (fun f=>(f.offset,f.type))=l∧ ∀f∈fs.toList,((P.info? f.type).map (·.size)).getD 0≠0:=by
 have:=k.desc;rw[hd]at this
 cases d<;>simp only[fH]at this<;>try (simp at this;done)
 rename_i fs
 simp only[Bool.and_eq_true,rpS,decide_eq_true_eq,List.all_eq_true]at this
 exact⟨fs,k.und,this.1.1,this.2⟩
omit m in
theorem hU {t e sz:Nat} (hu:P.underlying t=some (.slice e)) (hs:(sizeOf e).run P w=.ok sz w) {b o len k:Nat} {ki:IntKind} {n:Int} (h0:0≤n) (h1:n<(len:Int)):
  (Instr.indexAt t (.slice (some ⟨b,o,none⟩) len k) (.int ki n)).run P w=.ok (.pointer (some ⟨b,o+n.toNat*sz,none⟩)) w:=by
 simp[Instr.indexAt,asIntOf,run_underlying hu,h0,h1,hs,dR]
omit m in
theorem eU {t e sz len:Nat} (hu:P.underlying t=some (.array len e)) (hs:(sizeOf e).run P w=.ok sz w) {b o:Nat} {ki:IntKind} {n:Int} (h0:0≤n) (h1:n<(len:Int)):
  (Instr.indexAt t (.pointer (some ⟨b,o,none⟩)) (.int ki n)).run P w=.ok (.pointer (some ⟨b,o+n.toNat*sz,none⟩)) w:=by
 simp[Instr.indexAt,asIntOf,run_underlying hu,Instr.sureAddr,h0,h1,hs,dR]
include hT hg in
theorem vV {t:Nat} {x y:AV} {v u:Value} (hx:AVR X w ρ x v) (hy:AVR X w ρ y u) {e:Eff} (he:m8 tt get t x y=some e) (ho: ∀b∈e.obl,b=true):
  Res X P w0 M h ρ w e (Instr.indexAt t v u):=by
 unfold m8 at he
 replace he:=Option.bind_eq_some_iff.1 he
 obtain⟨ti,hti,he⟩:=he
 obtain⟨i,z,d,k⟩:=bR hT hti
 split at he
 ·rename_i e' id o len es cap kk n hfs
  replace he:=Option.bind_eq_some_iff.1 he
  obtain⟨te,hte,he⟩:=he
  obtain⟨i',z',d',k'⟩:=bR hT hte
  cases hc:(decide (te.size=es)&&hO get id)with
  |false=>rw[hc]at he;cases he
  |true=>
  rw[hc]at he
  simp only[Bool.and_eq_true,rpS,decide_eq_true_eq]at hc
  obtain⟨rfl,hal⟩:=hc
  obtain⟨c,hal⟩:=iL hal
  injection he with he;subst he
  obtain rfl:=dJ hy
  have h0:0≤n:=by simpa using ho (decide (0≤n)) (by simp)
  have h1:n<(len:Int):=by simpa using ho (decide (n<(len:Int))) (by simp)
  rcases dQ m (hg _ _ hal) (cO hx)with⟨b,kk',ty,nn,hb,rfl,hrow,hsh,hn,hl,hcap⟩|⟨a,rfl,rfl,hcap⟩
  ·refine⟨_,w,ρ,hU (c7 k hfs) (bZ k' w) h0 h1,bN.refl _ _,m, ?_⟩
   have:=CR0.ptr (w:=w) (L:=fun b=>b9 ρ b∨X b) (ρ:=ρ) id (n.toNat+o) te.size 0 b hb
   rw[show(n.toNat+o)*te.size+0=o*te.size+n.toNat*te.size from by rw[Nat.add_mul];omega]at this
   exact .c _ _ this
  ·omega
 ·rename_i e' nl c len es cap kk n hfs
  replace he:=Option.bind_eq_some_iff.1 he
  obtain⟨te,hte,he⟩:=he
  obtain⟨i',z',d',k'⟩:=bR hT hte
  cases hc:decide (te.size=es)with
  |false=>rw[hc]at he;cases he
  |true=>
  rw[hc]at he
  simp only[decide_eq_true_eq]at hc
  subst hc
  injection he with he;subst he
  obtain rfl:=dJ hy
  have h0:0≤n:=by simpa using ho (decide (0≤n)) (by simp)
  have h1:n<(len:Int):=by simpa using ho (decide (n<(len:Int))) (by simp)
  cases cO hx with
  |view _ _ _ _ _ b base kk' u hl hc hu hz hk hcap hnl=>
   refine⟨_,w,ρ,hU (c7 k hfs) (bZ k' w) h0 h1,bN.refl _ _,m, ?_⟩
   have:=CR0.vptr (w:=w) (L:=fun b=>b9 ρ b∨X b) (ρ:=ρ) c n.toNat te.size 0 b base u hl hc hu
   rw[Nat.add_zero]at this
   exact .c _ _ this
  |viewNone _ _ _ _ a k hz hcap hnl hk=>simp at h1;omega
 ·rename_i mm e' id i0 es0 j0 kk n hfs
  replace he:=Option.bind_eq_some_iff.1 he
  obtain⟨te,hte,he⟩:=he
  obtain⟨i',z',d',k'⟩:=bR hT hte
  cases hal:hO get id with
  |false=>rw[hal]at he;cases he
  |true=>
  rw[hal]at he
  obtain⟨c,hal⟩:=iL hal
  obtain rfl:=dJ hy
  obtain⟨b,hb,rfl,hrow⟩:=gO m (hg _ _ hal) (cO hx)
  dsimp only[cond_true]at he
  split at he
  ·injection he with he;subst he
   have h0:0≤n:=by simpa using ho (decide (0≤n)) (by simp)
   have h1:n<(mm:Int):=by simpa using ho (decide (n<(mm:Int))) (by simp)
   refine⟨_,w,ρ,eU (fX k hfs) (bZ k' w) h0 h1,bN.refl _ _,m, ?_⟩
   have:=CR0.ptr (w:=w) (L:=fun b=>b9 ρ b∨X b) (ρ:=ρ) id n.toNat te.size j0 b hb
   rw[Nat.mul_zero,Nat.zero_add,Nat.add_comm]
   exact .c _ _ this
  ·injection he with he;subst he
   have h0:0≤n:=by simpa using ho (decide (0≤n)) (by simp)
   have h1:n<(mm:Int):=by simpa using ho (decide (n<(mm:Int))) (by simp)
   refine⟨_,w,ρ,eU (fX k hfs) (bZ k' w) h0 h1,bN.refl _ _,m, ?_⟩
   have:=CR0.ptr (w:=w) (L:=fun b=>b9 ρ b∨X b) (ρ:=ρ) id i0 es0 (n.toNat*te.size+j0) b hb
   rw[Nat.add_assoc,Nat.add_comm j0]
   exact .c _ _ this
 ·rename_i mm e' c i0 es0 j0 kk n hfs
  replace he:=Option.bind_eq_some_iff.1 he
  obtain⟨te,hte,he⟩:=he
  obtain⟨i',z',d',k'⟩:=bR hT hte
  obtain rfl:=dJ hy
  cases cO hx with
  |vptr _ _ _ _ b base u hl hc hu=>
  split at he
  ·injection he with he;subst he
   have h0:0≤n:=by simpa using ho (decide (0≤n)) (by simp)
   have h1:n<(mm:Int):=by simpa using ho (decide (n<(mm:Int))) (by simp)
   refine⟨_,w,ρ,eU (fX k hfs) (bZ k' w) h0 h1,bN.refl _ _,m, ?_⟩
   have:=CR0.vptr (w:=w) (L:=fun b=>b9 ρ b∨X b) (ρ:=ρ) c n.toNat te.size j0 b base u hl hc hu
   rw[Nat.mul_zero,Nat.zero_add,Nat.add_assoc,Nat.add_comm j0]
   exact .c _ _ this
  ·injection he with he;subst he
   have h0:0≤n:=by simpa using ho (decide (0≤n)) (by simp)
   have h1:n<(mm:Int):=by simpa using ho (decide (n<(mm:Int))) (by simp)
   refine⟨_,w,ρ,eU (fX k hfs) (bZ k' w) h0 h1,bN.refl _ _,m, ?_⟩
   have:=CR0.vptr (w:=w) (L:=fun b=>b9 ρ b∨X b) (ρ:=ρ) c i0 es0 (n.toNat*te.size+j0) b base u hl hc hu
   rw[Nat.add_assoc base,Nat.add_assoc (i0*es0),Nat.add_comm j0]
   exact .c _ _ this
 ·cases he
omit m in
theorem qV {t f b o:Nat} {fs:Array Go.Field} {fd:Go.Field} (hu:P.underlying t=some (.struct fs)) (hf:fs.toList[f]? =some fd) (hz:((P.info? fd.type).map (·.size)).getD 0≠0):
  (Instr.fieldAt t (.pointer (some ⟨b,o,none⟩)) f).run P w=.ok (.pointer (some ⟨b,o+fd.offset,none⟩)) w:=by
 have hf':fs[f]? =some fd:=by simpa using hf
 cases hi:P.info? fd.type with
 |none=>rw[hi]at hz;exact absurd rfl hz
 |some i=>
  rw[hi]at hz
  have hz': ¬i.size=0:=hz
  simp[Instr.fieldAt,run_underlying hu,hf',Instr.sureAddr,fieldPlace,sizeOf,typeInfo,hi,hz',dR]
include hT hg in
theorem vU {t f:Nat} {x:AV} {v:Value} (hx:AVR X w ρ x v) {e:Eff} (he:m7 tt get t x f=some e):Res X P w0 M h ρ w e (Instr.fieldAt t v f):=by
 unfold m7 at he
 replace he:=Option.bind_eq_some_iff.1 he
 obtain⟨ti,hti,he⟩:=he
 obtain⟨i,z,d,k⟩:=bR hT hti
 split at he
 ·rename_i fs id ii es j hfs
  cases hal:hO get id with
  |false=>rw[hal]at he;cases he
  |true=>
  rw[hal]at he
  obtain⟨c,hal⟩:=iL hal
  obtain⟨b,hb,rfl,hrow⟩:=gO m (hg _ _ hal) (cO hx)
  replace he:=Option.bind_eq_some_iff.1 he
  obtain⟨⟨o,ft⟩,h1,he⟩:=he
  injection he with he;subst he
  obtain⟨fields,f1,f2,f3⟩:=jZ k hfs
  rw[field?,←f2,List.getElem?_map]at h1
  obtain⟨fd,g1,g2⟩:=Option.map_eq_some_iff.1 h1
  injection g2 with g2 g3
  refine⟨_,w,ρ,qV f1 g1 (f3 fd (List.mem_of_getElem? g1)),bN.refl _ _,m, ?_⟩
  rw[g2,Nat.add_assoc]
  exact .c _ _ (.ptr id ii es (j+o) b hb)
 ·rename_i fs c ii es j hfs
  cases cO hx with
  |vptr _ _ _ _ b base u hl hc hu=>
  replace he:=Option.bind_eq_some_iff.1 he
  obtain⟨⟨o,ft⟩,h1,he⟩:=he
  injection he with he;subst he
  obtain⟨fields,f1,f2,f3⟩:=jZ k hfs
  rw[field?,←f2,List.getElem?_map]at h1
  obtain⟨fd,g1,g2⟩:=Option.map_eq_some_iff.1 h1
  injection g2 with g2 g3
  refine⟨_,w,ρ,qV f1 g1 (f3 fd (List.mem_of_getElem? g1)),bN.refl _ _,m, ?_⟩
  rw[g2,Nat.add_assoc base,Nat.add_assoc (ii*es)]
  exact .c _ _ (.vptr c ii es (j+o) b base u hl hc hu)
 ·cases he
omit m in
include hT in
theorem uE {t off:Nat} {cs:List aI} {vs:Array Value} (hl:LR X w ρ cs vs.toList) {y:AV} (hp:apart tt t cs off=some y): ∃v,(part t vs off).run P w=.ok v w∧AVR X w ρ y v:=by
 unfold apart at hp
 replace hp:=Option.bind_eq_some_iff.1 hp
 obtain⟨te,hte,hp⟩:=hp
 obtain⟨i,z,d,k⟩:=bR hT hte
 cases hag:te.agg with
 |true=>
  rw[hag]at hp
  injection hp with hp;subst hp
  refine⟨.agg (vs.extract off (off+te.size)), ?_,AVR.of_lr ?_⟩
  ·simp[part,l4 k,hag,bZ k]
  ·have:=(hl.drop off).take te.size
   simpa [Array.toList_extract,List.extract_eq_take_drop]using this
 |false=>
  rw[hag]at hp
  obtain⟨c,h1,h2⟩:=Option.map_eq_some_iff.1 hp
  subst h2
  have hlt:off<cs.length:=(List.getElem?_eq_some_iff.1 h1).1
  have hlt2:off<vs.size:=by have:=hl.1;simp at this;omega
  refine⟨vs[off],by simp[part,l4 k,hag,hlt2],.c _ _ ?_⟩
  have:=hl.2 off hlt
  simpa [List.getD_eq_getElem?_getD,h1,hlt2]using this
omit m in
theorem FX {cs:List aI} {v:Value} (hx:AVR X w ρ (.agg cs) v): ∃vs:Array Value,v=.agg vs∧LR X w ρ cs vs.toList:=by
 cases hx with
 |agg _ vs hs h=>exact⟨vs,rfl,by simpa using hs,fun i hi=>by have:=h i hi;simpa [Array.getD_eq_getD_getElem?,List.getD_eq_getElem?_getD]using this⟩
include hT in
theorem J5 {t f:Nat} {x:AV} {v:Value} (hx:AVR X w ρ x v) {e:Eff} (he:E1 tt t x f=some e):Res X P w0 M h ρ w e (Instr.field t v f):=by
 unfold E1 at he
 replace he:=Option.bind_eq_some_iff.1 he
 obtain⟨ti,hti,he⟩:=he
 obtain⟨i,z,d,k⟩:=bR hT hti
 split at he
 ·rename_i fs cs hfs
  replace he:=Option.bind_eq_some_iff.1 he
  obtain⟨⟨o,ft⟩,h1,he⟩:=he
  replace he:=Option.bind_eq_some_iff.1 he
  obtain⟨y,hp,he⟩:=he
  injection he with he;subst he
  obtain⟨vs,rfl,hl⟩:=FX hx
  obtain⟨fields,f1,f2,f3⟩:=jZ k hfs
  rw[field?,←f2,List.getElem?_map]at h1
  obtain⟨fd,g1,g2⟩:=Option.map_eq_some_iff.1 h1
  injection g2 with g2 g3
  obtain⟨v,p1,p2⟩:=uE hT hl hp
  have g1':fields[f]? =some fd:=by simpa using g1
  refine⟨v,w,ρ, ?_,bN.refl _ _,m,p2⟩
  simp[Instr.field,run_underlying f1,g1',asAgg,g2,g3,p1]
 ·cases he
include hT in
theorem J6 {t:Nat} {x y:AV} {v u:Value} (hx:AVR X w ρ x v) (hy:AVR X w ρ y u) {e:Eff} (he:E2 tt t x y=some e) (ho: ∀b∈e.obl,b=true):Res X P w0 M h ρ w e (Instr.index t v u):=by
 unfold E2 at he
 replace he:=Option.bind_eq_some_iff.1 he
 obtain⟨ti,hti,he⟩:=he
 obtain⟨i,z,d,k⟩:=bR hT hti
 split at he
 ·rename_i mm e' cs kk n hfs
  replace he:=Option.bind_eq_some_iff.1 he
  obtain⟨te,hte,he⟩:=he
  obtain⟨i',z',d',k'⟩:=bR hT hte
  replace he:=Option.bind_eq_some_iff.1 he
  obtain⟨y,hp,he⟩:=he
  injection he with he;subst he
  obtain⟨vs,rfl,hl⟩:=FX hx
  obtain rfl:=dJ hy
  have h0:0≤n:=by simpa using ho (decide (0≤n)) (by simp)
  have h1:n<(mm:Int):=by simpa using ho (decide (n<(mm:Int))) (by simp)
  obtain⟨v,p1,p2⟩:=uE hT hl hp
  refine⟨v,w,ρ, ?_,bN.refl _ _,m,p2⟩
  simp[Instr.index,asIntOf,run_underlying (fX k hfs),h0,h1,bZ k',p1]
 ·rename_i s kk n hfs
  injection he with he;subst he
  obtain rfl:=rL hx
  obtain rfl:=dJ hy
  have h0:0≤n:=by simpa using ho (decide (0≤n)) (by simp)
  have h1:n<(s.size:Int):=by simpa using ho (decide (n<(s.size:Int))) (by simp)
  have hlt:n.toNat<s.size:=by omega
  refine⟨_,w,ρ, ?_,bN.refl _ _,m,.c _ _ (.int _ _)⟩
  have e1:s[n.toNat]? =some (s.data.getD n.toNat 0):=by
   have hlt':n.toNat<s.data.size:=hlt
   rw[getElem?_pos s n.toNat hlt]
   simp only[Array.getD,hlt',dif_pos];rfl
  simp[Instr.index,asIntOf,run_underlying (iO k hfs),h0,e1]
 ·cases he
omit m in
theorem jY {α:Type} (es:Nat) (xs:List α) (lo hi:Option Nat):(oP es xs lo hi).length=min ((hi.map (· *es)).getD xs.length) xs.length-lo.getD 0*es:=by
 unfold oP;cases lo<;>cases hi<;>simp[dI]
omit m in
theorem iM {α:Type} (es:Nat) (xs:List α) (lo hi:Option Nat) (d:α) (q:Nat) (hq:q<(oP es xs lo hi).length):
  (oP es xs lo hi).getD q d=xs.getD (lo.getD 0*es+q) d:=by
 rw[jY]at hq
 unfold oP
 cases lo with
 |none=>
  cases hi with
  |none=>simp
  |some h=>
   simp at hq
   have:q<ix h es 0:=by rw[dI];omega
   simp[List.getD_eq_getElem?_getD,List.getElem?_take,this]
 |some l=>
  cases hi with
  |none=>simp[List.getD_eq_getElem?_getD,List.getElem?_drop,dI]
  |some h=>
   simp at hq
   have:l*es+q<h*es:=by omega
   simp[List.getD_eq_getElem?_getD,List.getElem?_drop,List.getElem?_take,dI,this]
omit m in
theorem pP {es len:Nat} {c c':Con} {lo hi:Option Nat} (hs:c.sub es lo hi=some c') (hz:len*es=c.size) (h1:hi.getD len≤len) (h2:lo.getD 0≤hi.getD len):
  c'.size=(hi.getD len-lo.getD 0)*es∧ ∀q,q<c'.size→c'.cell q=c.cell (lo.getD 0*es+q):=by
 have hsz: ∀ {α:Type} (xs:List α),xs.length=c.size→(oP es xs lo hi).length=(hi.getD len-lo.getD 0)*es:=by
  intro α xs hx
  rw[jY,hx,←hz,Nat.sub_mul]
  have a1:=Nat.mul_le_mul_right es h1
  cases hi with
  |none=>simp
  |some h=>
   have a1:h*es≤len*es:=Nat.mul_le_mul_right es h1
   show min (h*es) (len*es)-lo.getD 0*es=h*es-lo.getD 0*es
   rw[Nat.min_eq_left a1]
 cases c with
 |ints k xs=>
  injection hs with hs;subst hs
  exact⟨hsz xs rfl,fun q hq=>by simp only[Con.cell];rw[iM _ _ _ _ _ _ hq]⟩
 |bools xs=>
  injection hs with hs;subst hs
  exact⟨hsz xs rfl,fun q hq=>by simp only[Con.cell];rw[iM _ _ _ _ _ _ hq]⟩
 |ivs k xs=>
  injection hs with hs;subst hs
  exact⟨hsz xs rfl,fun q hq=>by simp only[Con.cell];rw[iM _ _ _ _ _ _ hq]⟩
 |cells xs=>
  injection hs with hs;subst hs
  exact⟨hsz xs rfl,fun q hq=>by simp only[Con.cell];rw[iM _ _ _ _ _ _ hq]⟩
 |typ τ xs=>
  simp only[Con.sub]at hs
  cases he:(τ.es==es)with
  |false=>rw[he]at hs;cases hs
  |true=>
   rw[he,cond_true]at hs
   injection hs with hs;subst hs
   have he':τ.es=es:=by simpa using he
   subst he'
   have hp:=τ.es_pos
   have hz:len*τ.es=xs.length*τ.es:=hz
   have hz:len=xs.length:=Nat.eq_of_mul_eq_mul_right hp hz
   have hl:(oP 1 xs lo hi).length=hi.getD len-lo.getD 0:=by
    rw[jY,Nat.mul_one]
    cases hi with
    |none=>simp[hz]
    |some h=>
     have h1:h≤len:=h1
     show min (h*1) xs.length-lo.getD 0=h-lo.getD 0
     rw[Nat.mul_one,Nat.min_eq_left (by omega)]
   refine⟨by simp only[Con.size,hl],fun q hq=> ?_⟩
   simp only[Con.size]at hq
   have hqi:q/τ.es<(oP 1 xs lo hi).length:=Nat.div_lt_of_lt_mul (by rw[Nat.mul_comm];exact hq)
   simp only[Con.cell]
   rw[iM _ _ _ _ _ _ hqi,Nat.mul_one,show(lo.getD 0*τ.es+q)/τ.es=lo.getD 0+q/τ.es by rw[Nat.mul_comm,Nat.mul_add_div hp],show(lo.getD 0*τ.es+q)%τ.es=q%τ.es by rw[Nat.mul_comm,Nat.mul_add_mod]]
 |recs e n f=>
  simp only[Con.sub]at hs
  cases he:(e==es)with
  |false=>rw[he]at hs;cases hs
  |true=>
   rw[he]at hs
   have he':e=es:=by simpa using he
   subst he'
   simp only[Con.size]at hz
   have hn:e=0∨n=len:=by
    rcases Nat.eq_zero_or_pos e with h|h
    ·exact .inl h
    ·exact .inr (Nat.eq_of_mul_eq_mul_right h hz.symm)
   cases lo with
   |none=>
    cases hi with
    |none=>injection hs with hs;subst hs;exact⟨by simp[Con.size,hz],fun q hq=>by simp⟩
    |some h=>injection hs with hs;subst hs;exact⟨by simp[Con.size],fun q hq=>by simp[Con.cell]⟩
   |some l=>
    have cell: ∀q,0<e→(fun i j=>f (i+l) j) (q/e) (q%e)=f ((l*e+q)/e) ((l*e+q)%e):=fun q hp=>by
     have a1:(l*e+q)/e=q/e+l:=by rw[Nat.add_comm,Nat.add_mul_div_right _ _ hp]
     have a2:(l*e+q)%e=q%e:=by rw[Nat.add_comm,Nat.add_mul_mod_self_right]
     rw[a1,a2]
    cases hi with
    |none=>
     injection hs with hs;subst hs
     refine⟨?_,fun q hq=> ?_⟩
     ·simp only[Con.size,Option.getD_none,Option.getD_some]
      rcases hn with h|h
      ·subst h;simp
      ·rw[h]
     ·simp only[Con.size]at hq
      have hp:0<e:=by
       rcases Nat.eq_zero_or_pos e with h|h
       ·subst h;simp at hq
       ·exact h
      exact cell q hp
    |some h=>
     injection hs with hs;subst hs
     refine⟨rfl,fun q hq=> ?_⟩
     simp only[Con.size]at hq
     have hp:0<e:=by
      rcases Nat.eq_zero_or_pos e with h|h
      ·subst h;simp at hq
      ·exact h
     exact cell q hp
omit m in
theorem oN {x:Option AV} {v:Option Value} {n:Option Int} (hx: ∀y,x=some y→ ∃u,v=some u∧AVR X w ρ y u) (hn:x=none→v=none) (hb:bnd x=some n):
  (n=none∧v=none)∨ ∃k q,n=some q∧v=some (.int k q):=by
 unfold bnd at hb
 split at hb
 ·injection hb with hb;subst hb;exact .inl ⟨rfl,hn rfl⟩
 ·rename_i k q
  injection hb with hb;subst hb
  obtain⟨u,hu,hr⟩:=hx _ rfl
  obtain rfl:=dJ hr
  exact .inr ⟨k,q,rfl,hu⟩
 ·cases hb
omit m in
theorem jD {isS:Bool} {len cap:Nat} {lo hi mx:Option Int} {vl vh vm:Option Value} (hl:(lo=none∧vl=none)∨ ∃k q,lo=some q∧vl=some (.int k q))
  (hh:(hi=none∧vh=none)∨ ∃k q,hi=some q∧vh=some (.int k q)) (hm:(mx=none∧vm=none)∨ ∃k q,mx=some q∧vm=some (.int k q)) (hmh:mx.isNone=true∨hi.isSome=true)
  (ho: ∀b∈iU len lo hi mx,b=true) (hc:len≤cap):
  (Instr.sliceBounds isS len cap vl vh vm).run P w=.ok ((lo.map Int.toNat).getD 0,mE len hi,(mx.map Int.toNat).getD cap) w∧
   (lo.map Int.toNat).getD 0≤mE len hi∧mE len hi≤(mx.map Int.toNat).getD len∧(mx.map Int.toNat).getD len≤len:=by
 have inn: ∀(o:Option Int) (d:Int),(∀b∈inO o d,b=true)→ ∀x,o=some x→0≤x∧x≤d:=by
  intro o d hb x hx
  subst hx
  exact⟨by simpa using hb (decide (0≤x)) (by simp[inO]),by simpa using hb (decide (x≤d)) (by simp[inO])⟩
 have b1:=inn lo (MF hi len) (fun b hb=>ho b (by simp[iU,hb]))
 have b2:=inn hi (MF mx len) (fun b hb=>ho b (by simp[iU,hb]))
 have b3:=inn mx len (fun b hb=>ho b (by simp[iU,hb]))
 clear ho inn
 rcases hl with⟨rfl,rfl⟩|⟨kl,ql,rfl,rfl⟩<;>rcases hh with⟨rfl,rfl⟩|⟨kh,qh,rfl,rfl⟩<;>rcases hm with⟨rfl,rfl⟩|⟨km,qm,rfl,rfl⟩<;>
  simp[MF,mE]at b1 b2 b3 hmh⊢
 ·simp[Instr.sliceBounds]
 ·have c1:qh≤(cap:Int):=by omega
  refine⟨?_,by omega⟩
  simp[Instr.sliceBounds,Instr.sliceBound,asIntOf,b2,c1]
 ·have c1:qm≤(cap:Int):=by omega
  refine⟨?_,by omega⟩
  simp[Instr.sliceBounds,Instr.sliceBound,asIntOf,b2,b3,c1]
  omega
 ·refine⟨?_,by omega⟩
  simp[Instr.sliceBounds,Instr.sliceBound,asIntOf,b1]
 ·have c1:qh≤(cap:Int):=by omega
  refine⟨?_,by omega⟩
  simp[Instr.sliceBounds,Instr.sliceBound,asIntOf,b1,b2,c1]
  omega
 ·have c1:qm≤(cap:Int):=by omega
  refine⟨?_,by omega⟩
  simp[Instr.sliceBounds,Instr.sliceBound,asIntOf,b1,b2,b3,c1]
  rw[if_pos (by omega),if_pos (by omega)]
end
end
section
variable {X : Nat → Prop}
theorem kV (n:Nat) (o:Option Int):HP n o=n-(o.map Int.toNat).getD 0:=by cases o<;>simp[HP]
theorem BP (n:Nat) (o:Option Int):MJ n o=(o.map Int.toNat).getD 0+n:=by cases o<;>simp[MJ]
theorem mY {cap:Option Nat} {lo mx:Option Int} {k:Nat} (h:mZ cap k):mZ (G3 cap lo mx) ((mx.map Int.toNat).getD k-(lo.map Int.toNat).getD 0):=by
 intro q hq
 unfold G3 at hq
 cases mx with
 |some m=>simp at hq⊢;rw[←hq,kV]
 |none=>
  cases cap with
  |none=>cases hq
  |some c=>have:=h c rfl;simp at hq⊢;rw[←hq,kV,this]
section
variable {P : Program} {tt : Tab} (hT : iK P tt) {w0 w : World} {M : Nat → Prop} {h : List aV} {ρ : Rho} (m : Mem X w0 M h ρ w)
 {get:Get} (hg: ∀id c,get id=.live c→Heap.get h id=.live c)
include m
omit m in
theorem l5 {t e sz:Nat} (hu:P.underlying t=some (.slice e)) (hs:(sizeOf e).run P w=.ok sz w) {a:Option Addr} {len cap l hh mm:Nat} {vl vh vm:Option Value}
  (hb:(Instr.sliceBounds true len cap vl vh vm).run P w=.ok (l,hh,mm) w):
  (Instr.sliceAt t (.slice a len cap) vl vh vm).run P w=.ok (.slice (if mm=l then a else a.map (·.add (l*sz))) (hh-l) (mm-l)) w:=by
 simp[Instr.sliceAt,Instr.slice,run_underlying hu,hb,hs]
include hT hg in
theorem J7 {t:Nat} {x:AV} {lo hi mx:Option AV} {v:Value} {vl vh vm:Option Value} (hx:AVR X w ρ x v)
  (hl: ∀y,lo=some y→ ∃u,vl=some u∧AVR X w ρ y u) (hl':lo=none→vl=none) (hh: ∀y,hi=some y→ ∃u,vh=some u∧AVR X w ρ y u) (hh':hi=none→vh=none)
  (hm: ∀y,mx=some y→ ∃u,vm=some u∧AVR X w ρ y u) (hm':mx=none→vm=none) {e:Eff} (he:E3 tt get t x lo hi mx=some e) (ho: ∀b∈e.obl,b=true):
  Res X P w0 M h ρ w e (Instr.sliceAt t v vl vh vm):=by
 unfold E3 at he
 replace he:=Option.bind_eq_some_iff.1 he
 obtain⟨ti,hti,he⟩:=he
 obtain⟨i,z,d,k⟩:=bR hT hti
 replace he:=Option.bind_eq_some_iff.1 he
 obtain⟨ql,bl,he⟩:=he
 replace he:=Option.bind_eq_some_iff.1 he
 obtain⟨qh,bh,he⟩:=he
 replace he:=Option.bind_eq_some_iff.1 he
 obtain⟨qm,bm,he⟩:=he
 have sl:=oN hl hl' bl
 have sh:=oN hh hh' bh
 have sm:=oN hm hm' bm
 split at he
 ·rename_i e' id o len es cap hfs
  replace he:=Option.bind_eq_some_iff.1 he
  obtain⟨te,hte,he⟩:=he
  obtain⟨i',z',d',k'⟩:=bR hT hte
  cases hc:(decide (te.size=es)&&hO get id&&(qm.isNone||qh.isSome))with
  |false=>rw[hc]at he;cases he
  |true=>
  rw[hc]at he
  simp only[Bool.and_eq_true,rpS,decide_eq_true_eq,Bool.or_eq_true]at hc
  obtain⟨⟨rfl,hal⟩,hmh⟩:=hc
  obtain⟨c,hal⟩:=iL hal
  injection he with he;subst he
  rcases dQ m (hg _ _ hal) (cO hx)with⟨b,kk,ty,nn,hb,rfl,hrow,hsh,hn,hlk,hcap⟩|⟨a,rfl,rfl,hcap⟩
  ·obtain⟨r1,r2,r3,r4⟩:=jD (P:=P) (w:=w) (isS:=true) sl sh sm hmh ho hlk
   refine⟨_,w,ρ,l5 (c7 k hfs) (bZ k' w) r1,bN.refl _ _,m,.c _ _ ?_⟩
   rw[kV,BP]
   generalize hL:(ql.map Int.toNat).getD 0=L at*
   have hmk:(qm.map Int.toNat).getD kk≤kk∧mE len qh≤(qm.map Int.toNat).getD kk:=by
    cases qm with
    |none=>simp at r3 r4⊢;omega
    |some m=>simp at r3 r4⊢;omega
   have hco:=mY (lo:=ql) (mx:=qm) hcap
   rw[hL]at hco
   generalize hM:(qm.map Int.toNat).getD kk=K at*
   by_cases e0:K=L
   ·rw[if_pos e0]
    have e1:mE len qh-L=0:=by omega
    have e2:K-L=0:=by omega
    rw[e1,e2]
    rw[e2]at hco
    exact .slNone id _ te.size _ _ (by rw[hb];simp) hco
   ·rw[if_neg e0]
    simp only[Option.map_some,dR]
    have e3:o*te.size+L*te.size=(L+o)*te.size:=by rw[Nat.add_mul];omega
    rw[e3]
    refine .sl id (L+o) _ te.size _ b _ ty nn hb hsh ?_ (by omega) hco
    have:(L+o+(K-L))*te.size≤(o+kk)*te.size:=Nat.mul_le_mul_right _ (by omega)
    omega
  ·obtain⟨r1,r2,r3,r4⟩:=jD (P:=P) (w:=w) (isS:=true) sl sh sm hmh ho (Nat.le_refl 0)
   refine⟨_,w,ρ,l5 (c7 k hfs) (bZ k' w) r1,bN.refl _ _,m,.c _ _ ?_⟩
   rw[kV,BP]
   have hco:=mY (lo:=ql) (mx:=qm) hcap
   have e1:(ql.map Int.toNat).getD 0=0:=by omega
   have e2:mE 0 qh=0:=by omega
   have e3:(qm.map Int.toNat).getD 0=0:=by omega
   rw[e1,e3]at hco
   rw[e1,e2,e3]
   have hne:ρ id≠ .unborn:=fun e=>by
    have:=m.slot id;rw[hg _ _ hal,e]at this;exact this
   exact .slNone id _ te.size _ _ hne hco
 ·rename_i e' nl c len es cap hfs
  replace he:=Option.bind_eq_some_iff.1 he
  obtain⟨te,hte,he⟩:=he
  obtain⟨i',z',d',k'⟩:=bR hT hte
  cases hc:(decide (te.size=es)&&(qm.isNone||qh.isSome))with
  |false=>rw[hc]at he;cases he
  |true=>
  rw[hc]at he
  simp only[Bool.and_eq_true,rpS,decide_eq_true_eq,Bool.or_eq_true]at hc
  obtain⟨rfl,hmh⟩:=hc
  dsimp only[cond_true]at he
  replace he:=Option.bind_eq_some_iff.1 he
  obtain⟨c',hsub,he⟩:=he
  injection he with he;subst he
  have hiE: ∀len,(qh.map Int.toNat).getD len=mE len qh:=fun len=>by cases qh<;>simp[mE]
  cases cO hx with
  |view _ _ _ _ _ b base kk u hlv hcv huv hz hk hcap hnl=>
   obtain⟨r1,r2,r3,r4⟩:=jD (P:=P) (w:=w) (isS:=true) sl sh sm hmh ho hk
   obtain⟨s1,s2⟩:=pP hsub hz (by rw[hiE];omega) (by rw[hiE];exact r2)
   refine⟨_,w,ρ,l5 (c7 k hfs) (bZ k' w) r1,bN.refl _ _,m,.c _ _ ?_⟩
   rw[kV]
   rw[hiE]at s1
   have hco:=mY (lo:=ql) (mx:=qm) hcap
   have hmk:mE len qh≤(qm.map Int.toNat).getD kk:=by
    cases qm with
    |none=>simp at r3 r4⊢;omega
    |some m=>simp at r3 r4⊢;omega
   generalize hL:(ql.map Int.toNat).getD 0=L at*
   generalize hM:(qm.map Int.toNat).getD kk=K at*
   by_cases e0:K=L
   ·rw[if_pos e0]
    have e1:mE len qh-L=0:=by omega
    have e2:K-L=0:=by omega
    rw[e1,e2]
    rw[e2]at hco
    rw[e1]at s1
    exact .viewNone none c' te.size _ _ 0 (by simpa using s1) hco (fun _ h=>by cases h) (fun _=>rfl)
   ·rw[if_neg e0]
    simp only[Option.map_some,dR]
    have hle:(mE len qh)*te.size≤len*te.size:=Nat.mul_le_mul_right _ (by omega)
    have hin: ∀q,q<c'.size→L*te.size+q<c.size:=fun q hq=>by
     rw[s1,Nat.sub_mul]at hq;omega
    refine .view none c' _ te.size _ b (base+L*te.size) _ (fun q=>u (L*te.size+q)) (fun h0=>hlv (by have:=hin 0 h0;omega)) (fun q hq=> ?_) (fun q hq=> ?_) s1.symm (by omega) hco (fun _ h=>by cases h)
    ·have:=hcv _ (hin q hq);rwa[←Nat.add_assoc]at this
    ·rw[s2 q hq];exact huv _ (hin q hq)
  |viewNone _ _ _ _ a kk hz hcap hnl hk=>
   obtain⟨r1,r2,r3,r4⟩:=jD (P:=P) (w:=w) (isS:=true) (cap:=kk) sl sh sm hmh ho (Nat.zero_le _)
   obtain⟨s1,s2⟩:=pP (len:=0) hsub (by simpa using hz.symm) (by rw[hiE];omega) (by rw[hiE];exact r2)
   refine⟨_,w,ρ,l5 (c7 k hfs) (bZ k' w) r1,bN.refl _ _,m,.c _ _ ?_⟩
   rw[kV]
   have hco:=mY (lo:=ql) (mx:=qm) hcap
   have e1:(ql.map Int.toNat).getD 0=0:=by omega
   have e2:mE 0 qh=0:=by omega
   rw[hiE,e2]at s1
   have e4:c'.size=0:=by simpa using s1
   rw[e1]at hco
   rw[e1,e2]
   refine .viewNone none c' te.size _ _ _ e4 hco (fun _ h=>by cases h) (fun hn=> ?_)
   cases a with
   |none=>
    have:=hk rfl
    subst this
    cases qm with
    |none=>rfl
    |some m=>simp at r4⊢;omega
   |some a=>split at hn<;>simp at hn
 ·rename_i n e' id hfs
  replace he:=Option.bind_eq_some_iff.1 he
  obtain⟨te,hte,he⟩:=he
  obtain⟨i',z',d',k'⟩:=bR hT hte
  split at he
  ·rename_i c hs
   injection he with he;subst he
   have hsz:n*te.size≤c.size:=by simpa using ho (decide (n*te.size≤c.size)) (by simp)
   obtain⟨b,hb,rfl,cs,ty,hrow,hrs,hcs⟩:=gO m (hg _ _ hs) (cO hx)
   have e1:vl=none:=sl.elim (fun h=>h.2) fun⟨_,_,h,_⟩=>by cases h
   have e2:vh=none:=sh.elim (fun h=>h.2) fun⟨_,_,h,_⟩=>by cases h
   have e3:vm=none:=sm.elim (fun h=>h.2) fun⟨_,_,h,_⟩=>by cases h
   subst e1 e2 e3
   have hsh:w.shape? b=some (ty,cs.size):=by simp[World.shape?,hrow]
   refine⟨.slice (some ⟨b,0,none⟩) n n,w,ρ, ?_,bN.refl _ _,m,.c _ _ ?_⟩
   ·simp[Instr.sliceAt,run_underlying (fX k hfs),Instr.sureAddr,Instr.sliceBounds,bZ k',dR]
   ·have:=CR0.sl (w:=w) (L:=fun b=>b9 ρ b∨X b) (ρ:=ρ) id 0 n te.size (some n) b n ty cs.size hb hsh (by rw[Nat.zero_add];omega) (Nat.le_refl _) (fun q hq=>Option.some.inj hq)
    simpa using this
  ·cases he
 ·cases he
end
end
section
variable {X : Nat → Prop} {P : Program}
theorem qU (w:World) {d:Nat} {e:TypeId} {k:IntKind} (he:P.underlying e=some (.int k)) {xs ys:Array Value}: ∀(is:List Nat) (f g:Nat→Int) (kk:Nat→IntKind),(∀i∈is,xs[i]? =some (.int (kk i) (f i))∧ys[i]? =some (.int (kk i) (g i)))→
  (Op.eqItems (d+1) e 1 xs ys is).run P w=.ok (is.all fun i=>f i==g i) w
 |[],f,g,kk,h=>by simp[Op.eqItems]
 |i::is,f,g,kk,h=>by
  obtain⟨h1,h2⟩:=h i (by simp)
  have hp:P.plainKey e=true:=by unfold Program.plainKey;rw[he]
  have r1:=run_part_plain (P:=P) w hp h1
  have r2:=run_part_plain (P:=P) w hp h2
  have r3:=run_equalIn_int (P:=P) w d e (kk i) k (f i) (g i) he
  have ih:=qU w (d:=d) he is f g kk fun j hj=>h j (by simp[hj])
  simp only[Op.eqItems,Nat.mul_one,Sem.run_bind,r1,r2,r3,Result.andThen_ok]
  cases hq:f i==g i with
  |false=>simp[hq]
  |true=>rw[List.all_cons,hq,Bool.true_and];simpa using ih
theorem t4: ∀ {cs ds:List aI} {b:Bool},eqI cs ds=some b→ds.length=cs.length∧ ∃(f g:Nat→Int) (kk:Nat→IntKind),(∀i,i<cs.length→cs.getD i .any=.int (kk i) (f i)∧ds.getD i .any=.int (kk i) (g i))∧b=(List.range cs.length).all fun i=>f i==g i
 |[],[],b,h=>by
  simp only[eqI,Option.some.injEq]at h
  exact⟨rfl,fun _=>0,fun _=>0,fun _=> .i64,fun i hi=>by simp at hi,by simp[←h]⟩
 |.int k x::cs,.int k' y::ds,b,h=>by
  unfold eqI at h
  split at h
  ·rename_i hk
   subst hk
   cases hr:eqI cs ds with
   |none=>rw[hr]at h;cases h
   |some c=>
    rw[hr]at h
    simp only[Option.map_some,Option.some.injEq]at h
    obtain⟨h1,f,g,kk,h2,h3⟩:=t4 hr
    refine⟨by simp[h1],fun i=>match i with|0=>x|i+1=>f i,fun i=>match i with|0=>y|i+1=>g i,fun i=>match i with|0=>k|i+1=>kk i,fun i hi=> ?_, ?_⟩
    ·match i,hi with
     |0,_=>exact⟨rfl,rfl⟩
     |i+1,hi=>exact h2 i (by simpa using hi)
    ·rw[←h,h3,List.length_cons,List.range_succ_eq_map,List.all_cons,List.all_map];rfl
  ·cases h
 |[],.int _ _::_,b,h=>by cases h
end
section
variable {X : Nat → Prop}
def oL (op:BinOp) (t:TypeId) (x y:Operand) (a b:Value):Sem Value:=do eqGuard op t x y a b;binOp op t a b
theorem vF {xs:List Int} {o n:Nat} (h:o+n≤xs.length):(g8 xs o n).length=xs.length:=by
 simp[g8];omega
theorem FM {xs:List Int} {o n q:Nat} (h:o+n≤xs.length) (hq:q<xs.length):(g8 xs o n).getD q 0=if o≤q∧q<o+n then 0 else xs.getD q 0:=by
 unfold g8
 rw[List.getD_eq_getElem?_getD,List.getElem?_append,List.length_take]
 by_cases h1:q<o
 ·rw[if_pos (by omega),if_neg (by omega),List.getElem?_take,if_pos h1,List.getD_eq_getElem?_getD]
 ·rw[if_neg (by omega),List.getElem?_append,List.length_replicate]
  by_cases h2:q<o+n
  ·rw[if_pos (by omega),if_pos (by omega),List.getElem?_replicate,if_pos (by omega)];rfl
  ·rw[if_neg (by omega),if_neg (by omega),List.getElem?_drop,List.getD_eq_getElem?_getD]
   congr 2;omega
section
variable {P : Program} {tt : Tab} (hT : iK P tt) {w0 w : World} {M : Nat → Prop} {h : List aV} {ρ : Rho} (m : Mem X w0 M h ρ w)
 {get:Get} (hg: ∀id c,get id=.live c→Heap.get h id=.live c)
include m
omit m in
theorem l3 {op:BinOp} {t:TypeId} {x y:Operand} {a b:Value} (ha: ∀cs,a≠ .agg cs) (hn:a≠ .nilIface):(eqGuard op t x y a b).run P w=.ok () w:=by
 cases a<;>first|exact absurd rfl hn|exact absurd rfl (ha _)|(cases op<;>rfl)
theorem MQ {op:BinOp} {t:TypeId} {ox oy:Operand} {x y c:aI} {o:List Bool} {v u:Value} (hx:CR X w ρ x v) (hy:CR X w ρ y u) (he:TN op x y=some (c,o)) (ho: ∀b∈o,b=true):
  ∃r,(oL op t ox oy v u).run P w=.ok r w∧CR X w ρ c r:=by
 unfold TN at he
 split at he
 ·rename_i k a yk b
  cases hx;cases hy
  have hgd:(eqGuard op t ox oy (.int k a) (.int yk b)).run P w=.ok () w:=l3 (by simp) (by simp)
  have fin: ∀r,(binOp op t (.int k a) (.int yk b)).run P w=.ok r w→CR X w ρ c r→ ∃r,(oL op t ox oy (.int k a) (.int yk b)).run P w=.ok r w∧CR X w ρ c r:=
   fun r h1 h2=>⟨r,by simp[oL,hgd,h1],h2⟩
  split at he
  ·split at he
   ·injection he with he;injection he with h1 h2;subst h1 h2
    rename_i nb
    exact fin _ (by simp[binOp,Op.shift];intro hx;exfalso;omega) (.int _ _)
   ·cases he
  ·split at he
   ·injection he with he;injection he with h1 h2;subst h1 h2
    rename_i nb
    exact fin _ (by simp[binOp,Op.shift];intro hx;exfalso;omega) (.int _ _)
   ·cases he
  ·rename_i hs1 hs2
   split at he
   ·rename_i hk;subst hk
    split at he
    all_goals try (cases he;done)
    all_goals (injection he with he;injection he with h1 h2;subst h1 h2)
    ·exact fin _ (by simp[binOp,Op.intArith]) (.int _ _)
    ·exact fin _ (by simp[binOp,Op.intArith]) (.int _ _)
    ·exact fin _ (by simp[binOp,Op.intArith]) (.int _ _)
    ·have hb: ¬b=0:=by simpa using ho (!decide (b=0)) (by simp)
     exact fin _ (by simp[binOp,Op.intDiv,hb]) (.int _ _)
    ·have hb: ¬b=0:=by simpa using ho (!decide (b=0)) (by simp)
     exact fin _ (by simp[binOp,Op.intDiv,hb]) (.int _ _)
    ·exact fin _ (by simp[binOp,Op.intBits]) (.int _ _)
    ·exact fin _ (by simp[binOp,Op.intBits]) (.int _ _)
    ·exact fin _ (by simp[binOp,Op.intBits]) (.int _ _)
    ·exact fin _ (by simp[binOp,Op.intCmp]) (.bool _)
    ·exact fin _ (by simp[binOp,Op.intCmp]) (.bool _)
    ·exact fin _ (by simp[binOp,Op.intCmp]) (.bool _)
    ·exact fin _ (by simp[binOp,Op.intCmp]) (.bool _)
    ·exact fin _ (by simp[binOp,Op.intCmp]) (.bool _)
    ·exact fin _ (by simp[binOp,Op.intCmp]) (.bool _)
   ·cases he
 ·rename_i a b
  cases hx;cases hy
  have hgd:(eqGuard op t ox oy (.string a) (.string b)).run P w=.ok () w:=l3 (by simp) (by simp)
  have fin: ∀r,(binOp op t (.string a) (.string b)).run P w=.ok r w→CR X w ρ c r→ ∃r,(oL op t ox oy (.string a) (.string b)).run P w=.ok r w∧CR X w ρ c r:=
   fun r h1 h2=>⟨r,by simp[oL,hgd,h1],h2⟩
  split at he
  all_goals try (cases he;done)
  all_goals (injection he with he;injection he with h1 h2;subst h1 h2)
  ·have hb: ¬(((a.size+b.size:Nat):Int)>IntKind.i64.max):=by
    have h:a.size+b.size≤9223372036854775807:=of_decide_eq_true (ho _ List.mem_cons_self)
    show ¬(((a.size+b.size:Nat):Int)>9223372036854775807)
    omega
   exact fin _ (by simp only[binOp,Op.stringOp];rw[if_neg hb];rfl) (.str _)
  ·exact fin _ (by simp[binOp,Op.stringOp,hZ]) (.bool _)
  ·exact fin _ (by simp[binOp,Op.stringOp,hZ]) (.bool _)
  ·exact fin _ (by simp[binOp,Op.stringOp,cX]) (.bool _)
  ·exact fin _ (by simp[binOp,Op.stringOp,cX,hZ]) (.bool _)
  ·exact fin _ (by simp[binOp,Op.stringOp,cX,hZ]) (.bool _)
  ·exact fin _ (by simp[binOp,Op.stringOp,cX]) (.bool _)
 ·cases he
omit m in
theorem uV {t:TypeId} (hu:P.underlying t=some .bool) (a b:Bool):(Op.equal t (.bool a) (.bool b)).run P w=.ok (a==b) w:=by
 have: ∀d,(Op.equalIn (d+1) t (.bool a) (.bool b)).run P w=.ok (a==b) w:=fun d=>by simp[Op.equalIn,run_underlying hu]
 exact this 9999
omit m in
theorem iE {t e:TypeId} (hu:P.underlying t=some (.slice e)) (a:Option Addr) (n k:Nat):(Op.equal t (.slice a n k) (.slice none 0 0)).run P w=.ok a.isNone w:=by
 have: ∀d,(Op.equalIn (d+1) t (.slice a n k) (.slice none 0 0)).run P w=.ok a.isNone w:=fun d=>by cases a<;>simp[Op.equalIn,run_underlying hu]
 exact this 9999
omit m in
theorem vY {op:BinOp} {t e n:Nat} {k:IntKind} {x y:Operand} {xs ys:Array Value} (hu:P.underlying t=some (.array n e)) (he:P.underlying e=some (.int k)):(eqGuard op t x y (.agg xs) (.agg ys)).run P w=.ok () w:=by
 have h:P.eqGuardType P.depth t=false:=by
  unfold Program.depth
  show P.eqGuardType ((2*(P.types.size+Made.depth)+1)+1) t=false
  rw[Program.eqGuardType,hu]
  show P.eqGuardType ((2*(P.types.size+Made.depth))+1) e=false
  rw[Program.eqGuardType,he]
 cases op<;>simp[eqGuard,h]
omit m in
theorem vX {t e n:Nat} {k:IntKind} {i:TypeInfo} {xs ys:Array Value} (hu:P.underlying t=some (.array n e)) (he:P.underlying e=some (.int k)) (hi:P.info? e=some i) (hs:i.size=1) {f g:Nat→Int} {kk:Nat→IntKind}
  (h: ∀j,j<n→xs[j]? =some (.int (kk j) (f j))∧ys[j]? =some (.int (kk j) (g j))):(Op.equal t (.agg xs) (.agg ys)).run P w=.ok ((List.range n).all fun i=>f i==g i) w:=by
 unfold Op.equal Op.maxDepth
 rw[run_equalIn_array w 9999 xs ys hu hi]
 have hc:P.cellsOf e=1:=by simp[Program.cellsOf,hi,hs]
 rw[hc]
 exact qU w (d:=9998) he (List.range n) f g kk fun j hj=>h j (List.mem_range.1 hj)
omit m in
theorem nW {n d:Nat} {xs ys:Array Value} {f g:Nat→Int} {kk:Nat→IntKind} (hv: ∀j,j<n→xs[j]? =some (.int (kk j) (f j))∧ys[j]? =some (.int (kk j) (g j))): ∀(fs:List Field) (i:Nat),LY P n i fs=true→
  (Op.eqFields (d+1) xs ys fs).run P w=.ok ((List.range' i (n-i)).all fun j=>f j==g j) w∧i≤n
 |[],i,h=>by
  simp only[LY,decide_eq_true_eq]at h
  subst h
  exact⟨by simp[Op.eqFields],Nat.le_refl _⟩
 |fl::fs,i,h=>by
  simp only[LY,Bool.and_eq_true,rpS,decide_eq_true_eq,bne_iff_ne]at h
  obtain⟨h1,h2,h3,h4⟩:=h
  obtain⟨ih,hle⟩:=nW (d:=d) hv fs (i+1) h4
  obtain⟨k,hk⟩: ∃k,P.underlying fl.type=some (.int k):=by
   unfold M6 at h3
   split at h3
   ·rename_i k hk;exact⟨k,hk⟩
   ·cases h3
  obtain⟨v1,v2⟩:=hv i (by omega)
  have hp:P.plainKey fl.type=true:=by unfold Program.plainKey;rw[hk]
  have r1:=run_part_plain (P:=P) w hp (off:=fl.offset) (by rw[h2];exact v1)
  have r2:=run_part_plain (P:=P) w hp (off:=fl.offset) (by rw[h2];exact v2)
  have r3:=run_equalIn_int (P:=P) w d fl.type (kk i) k (f i) (g i) hk
  refine⟨?_,by omega⟩
  rw[show n-i=n-(i+1)+1 from by omega,List.range'_succ,List.all_cons]
  simp only[Op.eqFields,if_pos h1,Sem.run_bind,r1,r2,r3,Result.andThen_ok]
  cases hq:f i==g i with
  |false=>simp
  |true=>simpa using ih
include hT in
theorem J2 {op:BinOp} {t:Nat} {ox oy:Operand} {x y:AV} {v u:Value} (hx:AVR X w ρ x v) (hy:AVR X w ρ y u) {e:Eff} (he:yF tt op t x y=some e) (ho: ∀b∈e.obl,b=true):
  Res X P w0 M h ρ w e (oL op t ox oy v u):=by
 unfold yF at he
 split at he
 ·rename_i x y
  split at he
  ·rename_i c o hc
   injection he with he;subst he
   obtain⟨r,r1,r2⟩:=MQ m (t:=t) (ox:=ox) (oy:=oy) (P:=P) (cO hx) (cO hy) hc ho
   exact⟨r,w,ρ,r1,bN.refl _ _,m,.c _ _ r2⟩
  ·rename_i hnone
   clear hnone
   replace he:=Option.bind_eq_some_iff.1 he
   obtain⟨ti,hti,he⟩:=he
   obtain⟨i,z,d,k⟩:=bR hT hti
   have key: ∀c,aeq ti.desc x y=some c→ ∃b,c=.bool b∧(Op.equal t v u).run P w=.ok b w∧(∀cs,v≠ .agg cs)∧v≠ .nilIface∧
     (binOp .eql t v u=(do pure (.bool (←Op.equal t v u))))∧(binOp .neq t v u=(do pure (.bool (!(←Op.equal t v u))))):=by
    intro c hc
    unfold aeq at hc
    split at hc
    ·rename_i a b hd
     injection hc with hc;subst hc
     cases cO hx;cases cO hy
     exact⟨_,rfl,uV (HH k hd) _ _,by simp,by simp,rfl,rfl⟩
    ·rename_i e' hd
     injection hc with hc;subst hc
     cases cO hx;cases cO hy
     exact⟨_,rfl,iE (c7 k hd) none 0 0,by simp,by simp,rfl,rfl⟩
    ·rename_i e' nl c' n es cap hd
     injection hc with hc;subst hc
     cases cO hy
     cases cO hx with
     |view _ _ _ _ _ b base kk u hl hc hu hz hk hcap hnl=>
      refine⟨_,rfl, ?_,by simp,by simp,rfl,rfl⟩
      rw[iE (c7 k hd),hnl _ rfl];rfl
     |viewNone _ _ _ _ a kk hz hcap hnl hk=>
      refine⟨_,rfl, ?_,by simp,by simp,by cases a<;>rfl,by cases a<;>rfl⟩
      rw[iE (c7 k hd),hnl _ rfl]
    ·cases hc
   split at he
   ·rename_i c hc
    injection he with he;subst he
    obtain⟨b,rfl,k1,k2,k3,k4,k5⟩:=key _ hc
    refine⟨.bool b,w,ρ, ?_,bN.refl _ _,m,.c _ _ (.bool _)⟩
    have hgd:(eqGuard .eql t ox oy v u).run P w=.ok () w:=l3 k2 k3
    simp[oL,hgd,k4,k1]
   ·rename_i b hc
    injection he with he;subst he
    obtain⟨b',hb',k1,k2,k3,k4,k5⟩:=key _ hc
    injection hb' with hb';subst hb'
    refine⟨.bool (!b),w,ρ, ?_,bN.refl _ _,m,.c _ _ (.bool _)⟩
    have hgd:(eqGuard .neq t ox oy v u).run P w=.ok () w:=l3 k2 k3
    simp[oL,hgd,k5,k1]
   ·cases he
 ·rename_i cs ds
  replace he:=Option.bind_eq_some_iff.1 he
  obtain⟨ti,hti,he⟩:=he
  obtain⟨i,z,d,k⟩:=bR hT hti
  cases heq:ti.eqs with
  |true=>
  rw[heq,cond_true]at he
  have hcl:cs.length=ti.size:=by
   cases hcl:decide (cs.length=ti.size)with
   |false=>rw[hcl]at he;cases he
   |true=>exact of_decide_eq_true hcl
  rw[decide_eq_true hcl,cond_true]at he
  have hE:=k.eqs
  rw[heq,Bool.not_true,Bool.false_or]at hE
  unfold UA at hE
  simp only[Bool.and_eq_true,rpS,Bool.not_eq_true']at hE
  obtain⟨e1,e2,e3,e4⟩:=hE
  have hu:P.underlying t=some (.struct (P.fieldsOf t)):=by
   unfold Program.fieldsOf
   split at e3
   ·rename_i fs hfs;rw[hfs]
   ·cases e3
  have key: ∀b,eqI cs ds=some b→ ∃xs ys,v=.agg xs∧u=.agg ys∧(Op.equal t v u).run P w=.ok b w∧(eqGuard op t ox oy v u).run P w=.ok () w:=by
   intro b hb
   obtain⟨l1,f,g,kd,l2,rfl⟩:=t4 hb
   cases hx with
   |agg _ xs hxs hxc=>
    cases hy with
    |agg _ ys hys hyc=>
     refine⟨xs,ys,rfl,rfl, ?_,run_eqGuard_agg w op t ox oy xs ys e2⟩
     unfold Op.equal Op.maxDepth
     rw[run_equalIn_struct w 9999 t xs ys hu e1]
     have:=(nW (P:=P) (w:=w) (n:=ti.size) (d:=9998) (xs:=xs) (ys:=ys) (f:=f) (g:=g) (kk:=kd) (fun j hj=>by
      obtain⟨c1,c2⟩:=l2 j (by omega)
      have e1:=hxc j (by omega)
      have e2:=hyc j (by omega)
      rw[c1]at e1
      rw[c2]at e2
      have s1:j<xs.size:=by omega
      have s2:j<ys.size:=by omega
      simp only[Array.getD_eq_getD_getElem?,Array.getElem?_eq_getElem s1,Option.getD_some]at e1
      simp only[Array.getD_eq_getD_getElem?,Array.getElem?_eq_getElem s2,Option.getD_some]at e2
      rw[Array.getElem?_eq_getElem s1,Array.getElem?_eq_getElem s2]
      constructor
      ·generalize xs[j]=q at e1;cases e1;rfl
      ·generalize ys[j]=q at e2;cases e2;rfl) _ 0 e4).1
     rw[Nat.sub_zero,←hcl,←List.range_eq_range']at this
     exact this
  split at he
  ·rename_i b hb
   injection he with he;subst he
   obtain⟨xs,ys,rfl,rfl,k1,k2⟩:=key _ hb
   exact⟨.bool b,w,ρ,by simp[oL,k2,binOp,k1],bN.refl _ _,m,.c _ _ (.bool _)⟩
  ·rename_i b hb
   injection he with he;subst he
   obtain⟨xs,ys,rfl,rfl,k1,k2⟩:=key _ hb
   exact⟨.bool (!b),w,ρ,by simp[oL,k2,binOp,k1],bN.refl _ _,m,.c _ _ (.bool _)⟩
  ·cases he
  |false=>
  rw[heq,cond_false]at he
  split at he
  ·rename_i n e' hd
   replace he:=Option.bind_eq_some_iff.1 he
   obtain⟨te,hte,he⟩:=he
   obtain⟨i',z',d',k'⟩:=bR hT hte
   split at he
   ·rename_i kk hd'
    cases hq:decide (te.size=1)&&(decide (cs.length=n)&&decide (ds.length=n))with
    |false=>rw[hq]at he;cases he
    |true=>
    rw[hq,cond_true]at he
    simp only[Bool.and_eq_true,rpS,decide_eq_true_eq]at hq
    obtain⟨q1,q2,q3⟩:=hq
    have key: ∀b,eqI cs ds=some b→ ∃xs ys,v=.agg xs∧u=.agg ys∧(Op.equal t v u).run P w=.ok b w∧(eqGuard op t ox oy v u).run P w=.ok () w:=by
     intro b hb
     obtain⟨l1,f,g,kd,l2,rfl⟩:=t4 hb
     cases hx with
     |agg _ xs hxs hxc=>
      cases hy with
      |agg _ ys hys hyc=>
       refine⟨xs,ys,rfl,rfl, ?_,vY (fX k hd) (iN k' hd')⟩
       rw[q2]
       refine vX (fX k hd) (iN k' hd') k'.info (by rw[k'.size,q1]) (f:=f) (g:=g) (kk:=kd) fun j hj=> ?_
       obtain⟨c1,c2⟩:=l2 j (by omega)
       have e1:=hxc j (by omega)
       have e2:=hyc j (by omega)
       rw[c1]at e1
       rw[c2]at e2
       have s1:j<xs.size:=by omega
       have s2:j<ys.size:=by omega
       simp only[Array.getD_eq_getD_getElem?,Array.getElem?_eq_getElem s1,Option.getD_some]at e1
       simp only[Array.getD_eq_getD_getElem?,Array.getElem?_eq_getElem s2,Option.getD_some]at e2
       rw[Array.getElem?_eq_getElem s1,Array.getElem?_eq_getElem s2]
       constructor
       ·generalize xs[j]=q at e1;cases e1;rfl
       ·generalize ys[j]=q at e2;cases e2;rfl
    split at he
    ·rename_i b hb
     injection he with he;subst he
     obtain⟨xs,ys,rfl,rfl,k1,k2⟩:=key _ hb
     exact⟨.bool b,w,ρ,by simp[oL,k2,binOp,k1],bN.refl _ _,m,.c _ _ (.bool _)⟩
    ·rename_i b hb
     injection he with he;subst he
     obtain⟨xs,ys,rfl,rfl,k1,k2⟩:=key _ hb
     exact⟨.bool (!b),w,ρ,by simp[oL,k2,binOp,k1],bN.refl _ _,m,.c _ _ (.bool _)⟩
    ·cases he
   ·cases he
  ·cases he
 ·cases he
theorem MU {op:UnOp} {x:AV} {v:Value} (hx:AVR X w ρ x v) {e:Eff} (he:aun op x=some e):Res X P w0 M h ρ w e (Op.unary op v):=by
 unfold aun at he
 split at he
 ·injection he with he;subst he
  obtain rfl:=fW hx
  exact⟨_,w,ρ,by simp[Op.unary],bN.refl _ _,m,.c _ _ (.bool _)⟩
 ·injection he with he;subst he
  obtain rfl:=dJ hx
  exact⟨_,w,ρ,by simp[Op.unary,Op.intArith],bN.refl _ _,m,.c _ _ (.int _ _)⟩
 ·cases he
include hT hg in
theorem BS {s t:Nat} {x:AV} {v:Value} (hx:AVR X w ρ x v) {e:Eff} (he:sO tt get s t x=some e) (ho: ∀b∈e.obl,b=true):Res X P w0 M h ρ w e (convert s t v):=by
 unfold sO at he
 replace he:=Option.bind_eq_some_iff.1 he
 obtain⟨si,hsi,he⟩:=he
 replace he:=Option.bind_eq_some_iff.1 he
 obtain⟨ti,hti,he⟩:=he
 obtain⟨i,z,d,k⟩:=bR hT hsi
 obtain⟨i',z',d',k'⟩:=bR hT hti
 split at he
 ·rename_i k1 k2 k3 n h1 h2
  injection he with he;subst he
  obtain rfl:=dJ hx
  exact⟨_,w,ρ,by simp[convert,run_underlying (iN k h1),run_underlying (iN k' h2),Conv.intToInt],bN.refl _ _,m,.c _ _ (.int _ _)⟩
 ·rename_i s h1 h2
  injection he with he;subst he
  obtain rfl:=rL hx
  exact⟨_,w,ρ,by simp[convert,run_underlying (iO k h1),run_underlying (iO k' h2)],bN.refl _ _,m,.c _ _ (.str _)⟩
 ·rename_i e' s h1 h2
  replace he:=Option.bind_eq_some_iff.1 he
  obtain⟨te,hte,he⟩:=he
  obtain⟨i2,z2,d2,k2⟩:=bR hT hte
  split at he
  ·rename_i hd
   injection he with he;subst he
   obtain rfl:=rL hx
   have hrun:=run_bytes_of_string (P:=P) w _ _ _ s (iO k h1) (c7 k' h2) (iN k2 hd)
   obtain⟨a1,a2⟩:=(m.draw (w.drawn+1)).push (.cells (bytesRow s (grownCap w s.size 0 e')) e' ((bytesRow s (grownCap w s.size 0 e')).size,(bytesRow s (grownCap w s.size 0 e')).size+1))
   refine⟨_,_,ρ,hrun,(bN.draw w ρ (w.drawn+1)).trans a1,a2,.c _ _ ?_⟩
   have hsz:(c6 s).length=s.size:=by unfold c6;rw[List.length_map,Array.length_toList];rfl
   refine .view none _ _ 1 none w.heap.size 0 _ (fun q=> .int .u8 ((c6 s).getD q 0)) (fun _ hL=> ?_) (fun q hq=> ?_) (fun q hq=> .int _ _) (by simp[Con.size,hsz]) (grownCap_ge w s.size 0 e') (fun _ h=>by cases h) (fun _ h=>by cases h)
   ·rcases hL with⟨id,hL⟩|hL
    ·have:=m.lt hL;omega
    ·have:=(m.foreign _ hL).1;have:=m.size;omega
   ·simp only[Con.size]at hq
    have hq':q<s.data.size:=by rw[hsz]at hq;exact hq
    rw[Nat.zero_add]
    have:=World.cell?_alloc_mark w.drew (bytesRow s (grownCap w s.size 0 e')) e' ((bytesRow s (grownCap w s.size 0 e')).size,(bytesRow s (grownCap w s.size 0 e')).size+1) q
    refine this.trans ?_
    unfold bytesRow
    rw[Array.getElem?_append_left (by rw[Array.size_map];exact hq'),Array.getElem?_map,Array.getElem?_eq_getElem hq']
    unfold c6
    rw[List.getD_eq_getElem?_getD,List.getElem?_map,Array.getElem?_toList,Array.getElem?_eq_getElem hq']
    rfl
  ·cases he
 ·rename_i e' x h1 h2
  replace he:=Option.bind_eq_some_iff.1 he
  obtain⟨te,hte,he⟩:=he
  obtain⟨i2,z2,d2,k2⟩:=bR hT hte
  split at he
  ·rename_i hd
   replace he:=Option.bind_eq_some_iff.1 he
   obtain⟨⟨c,n,o⟩,hw,he⟩:=he
   dsimp only at he
   split at he
   ·rename_i xs
    injection he with he;subst he
    obtain⟨a,kk,news,rfl,n1,n2,n3,n4⟩:=kN m hg hw ho (cO hx)
    have hnews:news=xs.map (Value.int .u8):=by
     apply List.ext_getElem?
     intro q
     simp only[Con.size]at n2
     by_cases hq:q<xs.length
     ·have:=n3 q hq
      simp only[Con.cell]at this
      have e:news.getD q undef=.int .u8 (xs.getD q 0):=by
       revert this
       generalize news.getD q undef=u
       intro this
       cases this;rfl
      rw[List.getD_eq_getElem?_getD,List.getD_eq_getElem?_getD,List.getElem?_eq_getElem hq,List.getElem?_eq_getElem (by omega)]at e
      rw[List.getElem?_map,List.getElem?_eq_getElem hq,List.getElem?_eq_getElem (by omega)]
      exact congrArg some e
     ·rw[List.getElem?_eq_none (by omega),List.getElem?_eq_none (by simp;omega)]
    have hxn:xs.length=n:=by simp only[Con.size]at n2;omega
    have hconv:=run_convert_bytes_string (P:=P) w _ _ _ a n kk (c7 k h1) (iN k2 hd) (iO k' h2)
    cases a with
    |none=>
     have h0:n=0:=by
      rcases n4 with⟨b,hb,-⟩|h0
      ·cases hb
      ·exact h0
     have hx0:xs=[]:=List.eq_nil_of_length_eq_zero (by omega)
     subst hx0
     exact⟨_,w,ρ,hconv.trans (by simp[Conv.bytesToString];rfl),bN.refl _ _,m,.c _ _ (.str _)⟩
    |some b=>
     have hl:(loadCells b n).run P w=.ok (xs.map (Value.int .u8)).toArray w:=by
      have:=run_loadCells_list (P:=P) w b (xs.map (Value.int .u8)) (fun j u hj=>by
       rcases n4 with⟨b',hb',hc⟩|h0
       ·injection hb' with hb';subst hb'
        exact hc j u (by rw[hnews];exact hj)
       ·have:=(List.getElem?_eq_some_iff.1 hj).1
        simp at this;omega)
      rwa[List.length_map,hxn]at this
     refine⟨_,w,ρ,hconv.trans (run_bytesToString w b n kk xs hl),bN.refl _ _,m, ?_⟩
     rw[←AQ];exact .c _ _ (.str _)
   ·cases he
  ·cases he
 ·cases he
include hT hg in
theorem QP {t ty:Nat} {x:AV} {v:Value} (hx:AVR X w ρ x v) {e:Eff} (he:TO tt get t x=some e):Res X P w0 M h ρ w e (Builtin.len_ #[t] ty #[v]):=by
 unfold TO at he
 replace he:=Option.bind_eq_some_iff.1 he
 obtain⟨ti,hti,he⟩:=he
 obtain⟨i,z,d,k⟩:=bR hT hti
 have rs: ∀ {e':Nat} (a:Option Addr) (n c:Nat),ti.desc=.slice e'→(Builtin.len_ #[t] ty #[.slice a n c]).run P w=.ok (.int .i64 n) w:=fun a n c hd=>by
  simp[Builtin.len_,run_underlying (c7 k hd),goInt]
 split at he
 ·rename_i e' hd
  injection he with he;subst he
  cases cO hx
  exact⟨_,w,ρ,rs _ _ _ hd,bN.refl _ _,m,.c _ _ (.int _ _)⟩
 ·rename_i e' id o len es cap hd
  cases hal:hO get id with
  |false=>rw[hal]at he;cases he
  |true=>
  rw[hal]at he
  obtain⟨c,hal⟩:=iL hal
  injection he with he;subst he
  rcases dQ m (hg _ _ hal) (cO hx)with⟨b,kk,ty',nn,hb,rfl,hrow,hsh,hn,hlk,hcap⟩|⟨a,rfl,rfl,hcap⟩
  ·exact⟨_,w,ρ,rs _ _ _ hd,bN.refl _ _,m,.c _ _ (.int _ _)⟩
  ·exact⟨_,w,ρ,rs _ _ _ hd,bN.refl _ _,m,.c _ _ (.int _ _)⟩
 ·rename_i e' nl c len es cap hd
  injection he with he;subst he
  cases cO hx with
  |view _ _ _ _ _ b base kk u hl hc hu hz hk hcap hnl=>exact⟨_,w,ρ,rs _ _ _ hd,bN.refl _ _,m,.c _ _ (.int _ _)⟩
  |viewNone _ _ _ _ a kk hz hcap hnl hk=>exact⟨_,w,ρ,rs _ _ _ hd,bN.refl _ _,m,.c _ _ (.int _ _)⟩
 ·rename_i s hd
  injection he with he;subst he
  obtain rfl:=rL hx
  exact⟨_,w,ρ,by simp[Builtin.len_,run_underlying (iO k hd),goInt],bN.refl _ _,m,.c _ _ (.int _ _)⟩
 ·cases he
include hT hg in
theorem J4 {t ty:Nat} {x:AV} {v:Value} (hx:AVR X w ρ x v) {e:Eff} (he:DZ tt get t x=some e) (ho: ∀b∈e.obl,b=true):Res X P w0 M h ρ w e (Builtin.clear_ #[t] ty #[v]):=by
 unfold DZ at he
 replace he:=Option.bind_eq_some_iff.1 he
 obtain⟨ti,hti,he⟩:=he
 obtain⟨i,z,d,k⟩:=bR hT hti
 split at he
 ·rename_i e' id o len cap hd
  replace he:=Option.bind_eq_some_iff.1 he
  obtain⟨te,hte,he⟩:=he
  obtain⟨i',z',d',k'⟩:=bR hT hte
  split at he
  ·rename_i zc kk xs hz hs
   cases hzz:isZ kk zc with
   |false=>rw[hzz]at he;cases he
   |true=>
   rw[hzz]at he
   injection he with he;subst he
   have hle:o+len≤xs.length:=by simpa using ho _ (List.mem_singleton.2 rfl)
   have hs':=hg _ _ hs
   have hzc:=tU hzz
   subst hzc
   have hlr:=i7 (X:=X) k' w ρ
   rw[hz]at hlr
   have hzv:z'.cells= #[.int kk 0]:=by
    have h1:z'.cells.size=1:=by simpa using hlr.1
    have h2:=hlr.2 0 (by simp)
    simp only[List.getD_cons_zero]at h2
    cases h3:z'.cells.toList with
    |nil=>
     have:z'.cells.toList.length=1:=by simpa using h1
     rw[h3]at this;simp at this
    |cons a r=>
     have hr:r=[]:=by
      have:z'.cells.toList.length=1:=by simpa using h1
      rw[h3]at this;simpa using this
     subst hr
     rw[h3]at h2
     simp only[List.getD_cons_zero]at h2
     cases h2
     exact Array.toList_inj.1 (by simpa using h3)
   rcases dQ m hs' (cO hx)with⟨b,kcap,ty',nn,hb,rfl,hrow,hsh,hn,hlk,hcap⟩|⟨a,rfl,rfl,hcap⟩
   ·obtain⟨cs,tyr,hrw,hsz,hcs⟩:=hrow
    simp only[Con.size]at hsz hcs
    by_cases hl0:len=0
    ·subst hl0
     have e0:g8 xs o 0=xs:=by simp[g8]
     obtain⟨g1,g2⟩:=m.write hb (.ints kk (g8 xs o 0)) cs cs tyr hrw rfl (by rw[e0];exact hsz) (fun q hq=>by rw[e0]at hq⊢;exact hcs q hq)
     have hw:w.setRow b cs=w:=setRow_self w b cs tyr (0,0) hrw
     rw[hw]at g1 g2
     exact⟨_,w,ρ,by simp[Builtin.clear_,run_underlying (c7 k hd)],g1,by simpa [cZ]using g2,.tup [] #[] rfl (fun i hi=>by simp at hi)⟩
    ·have hzl:(Builtin.zeroCells z'.cells len).toList=List.replicate len (.int kk 0):=by
      rw[hzv]
      apply List.ext_getElem?
      intro q
      simp[Builtin.zeroCells,List.getElem?_replicate]
      by_cases hq:q<len<;>simp[hq,Nat.mod_one]
     have hst:=run_storeCells_at P b (o*1) tyr (List.replicate len (.int kk 0)) 0 cs w hrw (by simp;omega) (fun u hu=>by rw[List.eq_of_mem_replicate hu];rfl)
     obtain⟨g1,g2⟩:=m.write hb (.ints kk (g8 xs o len)) cs (cs.toList.take (o*1+0)++List.replicate len (Value.int kk 0)++cs.toList.drop (o*1+0+(List.replicate len (Value.int kk 0)).length)).toArray tyr hrw
      (by simp;omega) (by simp only[Con.size,vF hle];simp;omega) (fun q hq=>by
       simp only[Con.size,vF hle]at hq
       simp only[Con.cell]
       rw[FM hle hq]
       have h0:=hcs q hq
       simp only[Con.cell]at h0
       simp only[Nat.mul_one,Nat.add_zero,List.length_replicate,Array.getD_eq_getD_getElem?,List.getElem?_toArray]
       rw[List.append_assoc,List.getElem?_append,List.length_take]
       have hcl:cs.toList.length=cs.size:=by simp
       by_cases h1:q<o
       ·rw[if_neg (by omega),if_pos (by omega),List.getElem?_take,if_pos h1]
        simpa [Array.getD_eq_getD_getElem?]using h0
       ·by_cases h2:q<o+len
        ·rw[if_pos (by omega),if_neg (by omega),List.getElem?_append,List.length_replicate,if_pos (by omega),List.getElem?_replicate,if_pos (by omega)]
         exact .int _ _
        ·rw[if_neg (by omega),if_neg (by omega),List.getElem?_append,List.length_replicate,if_neg (by omega),List.getElem?_drop]
         rw[show o+len+(q-min o cs.toList.length-len)=q from by omega]
         simpa [Array.getD_eq_getD_getElem?]using h0)
     refine⟨.tuple #[],_,ρ, ?_,g1,by simpa [cZ]using g2,.tup [] #[] rfl (fun i hi=>by simp at hi)⟩
     have hl1:len≠0:=hl0
     cases len with
     |zero=>exact absurd rfl hl0
     |succ len=>
      simp[Builtin.clear_,run_underlying (c7 k hd),gV k',hzl]at hst⊢
      rw[hst];rfl
   ·have e0:g8 xs o 0=xs:=by simp[g8]
    have hm:=m.slot id
    rw[hs']at hm
    refine⟨.tuple #[],w,ρ,by cases a<;>simp[Builtin.clear_,run_underlying (c7 k hd)],bN.refl _ _, ?_,.tup [] #[] rfl (fun i hi=>by simp at hi)⟩
    have:cZ h [(id,aV.live (.ints kk (g8 xs o 0)))]=h:=by
     simp only[cZ]
     rw[e0]
     apply List.ext_getElem?
     intro q
     rw[List.getElem?_set]
     by_cases hq:id=q
     ·subst hq
      have hlt:id<h.length:=Heap.lt_of_live (by rw[hs'];simp)
      rw[if_pos rfl,if_pos hlt]
      unfold Heap.get at hs'
      rw[List.getD_eq_getElem?_getD,List.getElem?_eq_getElem hlt]at hs'
      rw[List.getElem?_eq_getElem hlt];simpa using hs'.symm
     ·rw[if_neg hq]
    dsimp only
    rw[this];exact m
  ·cases he
 ·cases he
theorem QQ {x y:AV} {v u:Value} (hx:AVR X w ρ x v) (hy:AVR X w ρ y u) {a:Array TypeId} {ty:TypeId} {e:Eff} (he:H7 true x y=some e):Res X P w0 M h ρ w e (Builtin.max_ a ty #[v,u]):=by
 unfold H7 at he
 split at he
 ·split at he
  ·rename_i hk;subst hk
   injection he with he;subst he
   obtain rfl:=dJ hx;obtain rfl:=dJ hy
   exact⟨_,w,ρ,by simp[Builtin.max_,Builtin.max2],bN.refl _ _,m,.c _ _ (.int _ _)⟩
  ·cases he
 ·cases he
theorem QR {x y:AV} {v u:Value} (hx:AVR X w ρ x v) (hy:AVR X w ρ y u) {a:Array TypeId} {ty:TypeId} {e:Eff} (he:H7 false x y=some e):Res X P w0 M h ρ w e (Builtin.min_ a ty #[v,u]):=by
 unfold H7 at he
 split at he
 ·split at he
  ·rename_i hk;subst hk
   injection he with he;subst he
   obtain rfl:=dJ hx;obtain rfl:=dJ hy
   exact⟨_,w,ρ,by simp[Builtin.min_,Builtin.min2],bN.refl _ _,m,.c _ _ (.int _ _)⟩
  ·cases he
 ·cases he
theorem MT {c x y:AV} {vc v u:Value} (hc:AVR X w ρ c vc) (hx:AVR X w ρ x v) (hy:AVR X w ρ y u) {e:Eff} (he:LF c x y=some e) (ho: ∀b∈e.obl,b=true):
  Res X P w0 M h ρ w e (do pure (if←asBool vc then v else u)):=by
 unfold LF at he
 split at he
 ·injection he with he;subst he
  obtain rfl:=fW hc
  rename_i b
  have hb':b=false:=by simpa using ho (!b) (by simp)
  subst hb'
  exact⟨u,w,ρ,by simp[asBool],bN.refl _ _,m,hy⟩
 ·injection he with he;subst he
  obtain rfl:=fW hc
  rename_i b _
  have hb':b=true:=by simpa using ho b (by simp)
  subst hb'
  exact⟨v,w,ρ,by simp[asBool],bN.refl _ _,m,hx⟩
 ·injection he with he;subst he
  obtain rfl:=fW hc
  obtain rfl:=fW hx
  obtain rfl:=fW hy
  rename_i b x' y'
  exact⟨.bool (bif b then x' else y'),w,ρ,by cases b<;>simp[asBool],bN.refl _ _,m,.c _ _ (.bool _)⟩
 ·cases he
theorem BT {x:AV} {v:Value} {i:Nat} (hx:AVR X w ρ x v) {e:Eff} (he:sP x i=some e):Res X P w0 M h ρ w e (Instr.extract v i):=by
 unfold sP at he
 split at he
 ·rename_i vs
  replace he:=Option.bind_eq_some_iff.1 he
  obtain⟨y,hy,he⟩:=he
  injection he with he;subst he
  cases hx with
  |tup _ us hs hh=>
   have hlt:i<vs.length:=(List.getElem?_eq_some_iff.1 hy).1
   have hlt2:i<us.size:=by omega
   have:=hh i hlt
   refine⟨us[i],w,ρ,by simp[Instr.extract,hlt2],bN.refl _ _,m, ?_⟩
   simpa [List.getD_eq_getElem?_getD,hy,Array.getD,hlt2]using this
 ·cases he
theorem LH {f:FuncId} {caps:List aI} {v:Value} (hh:AVR X w ρ (.c (.fn f caps)) v): ∃vs:Array Value,v=.func (.func f) #[] vs∧LR X w ρ caps vs.toList:=by
 clear m
 cases cO hh with
 |fn _ _ vs hs hc=>exact⟨vs,rfl,by simpa using hs,fun i hi=>by have:=hc i hi;simpa [Array.getD_eq_getD_getElem?,List.getD_eq_getElem?_getD]using this⟩
include hg in
theorem HQ {x:AV} {v:Value} (hx:AVR X w ρ x v) {e:Eff} (he:TP get x=some e):e= {val:=x,sets:=[],obl:=[]}∧((∃ad,v=.pointer (some ad))∨ ∃f vs,v=.func (.func f) #[] vs):=by
 unfold TP at he
 split at he
 ·split at he
  ·rename_i c hs
   injection he with he;subst he
   obtain⟨b,hb',e1,hrow⟩:=gO m (hg _ _ hs) (cO hx)
   exact⟨rfl,.inl ⟨_,e1⟩⟩
  ·cases he
 ·injection he with he;subst he
  refine⟨rfl,.inl ?_⟩
  cases cO hx;exact⟨_,rfl⟩
 ·injection he with he;subst he
  obtain⟨vs,e1,_⟩:=LH m hx
  exact⟨rfl,.inr ⟨_,_,e1⟩⟩
 ·cases he
end
end
section
variable {X : Nat → Prop}
theorem zN {α:Type} {xs seg:List α} {o:Nat} (h:o+seg.length≤xs.length):(pM xs o seg).length=xs.length:=by
 simp[pM];omega
theorem GU {α:Type} {xs seg:List α} {o q:Nat} {d:α} (h:o+seg.length≤xs.length):(pM xs o seg).getD q d=if o≤q∧q<o+seg.length then seg.getD (q-o) d else xs.getD q d:=by
 unfold pM
 rw[List.getD_eq_getElem?_getD,List.getElem?_append,List.length_take]
 by_cases h1:q<o
 ·rw[if_pos (by omega),if_neg (by omega),List.getElem?_take,if_pos h1,List.getD_eq_getElem?_getD]
 ·rw[if_neg (by omega),List.getElem?_append]
  by_cases h2:q<o+seg.length
  ·rw[if_pos (by omega),if_pos (by omega),List.getD_eq_getElem?_getD]
   congr 2;omega
  ·rw[if_neg (by omega),if_neg (by omega),List.getElem?_drop,List.getD_eq_getElem?_getD]
   congr 2;omega
section
variable {P : Program} {tt : Tab} (hT : iK P tt) {w0 w : World} {M : Nat → Prop} {h : List aV} {ρ : Rho} (m : Mem X w0 M h ρ w)
 {get:Get} (hg: ∀id c,get id=.live c→Heap.get h id=.live c)
include hT hg m in
theorem wC {t u ty e':Nat} {te:TI} {i i':TypeInfo} {z z':Value} {dd dd':TypeDesc} {ti:TI} (k:iJ P t ti i z dd) (k':iJ P e' te i' z' dd') (hd:ti.desc=.slice e') (hsz:te.size=1)
  {id o len id2 o2 len2:Nat} {cap cap2:Option Nat} {c d c':Con} {v vy:Value} (hs:get id=.live c) (hs2:get id2=.live d) (hx:AVR X w ρ (.c (.sl id o len 1 cap)) v) (hy:AVR X w ρ (.c (.sl id2 o2 len2 1 cap2)) vy)
  (h1:0<len) (h2:0<len2) (h3:o+len≤c.size) (h4:o2+len2≤d.size) (hcs:c'.size=c.size)
  (hc': ∀q,q<c.size→c'.cell q=if o≤q∧q<o+Nat.min len2 len then d.cell (o2+(q-o))else c.cell q):
  Res X P w0 M h ρ w {val:=.c (.int .i64 (Nat.min len2 len:Nat)),sets:=[(id,.live c')],obl:=[]} (Builtin.copy_ #[t,u] ty #[v,vy]):=by
 obtain⟨b,kcap,ty',nn,hb,rfl,⟨cs,tyr,hrw,hsz1,hcs1⟩,hsh,hn,hlk,hcap⟩:=(dQ m (hg _ _ hs) (cO hx)).resolve_right fun⟨_,_,hl0,_⟩=>by omega
 obtain⟨b2,kcap2,ty2,nn2,hb2,rfl,⟨cs2,tyr2,hrw2,hsz2,hcs2⟩,hsh2,hn2,hlk2,hcap2⟩:=(dQ m (hg _ _ hs2) (cO hy)).resolve_right fun⟨_,_,hl0,_⟩=>by omega
 have hm1:Nat.min len2 len≤len:=Nat.min_le_right _ _
 have hm2:Nat.min len2 len≤len2:=Nat.min_le_left _ _
 generalize hn0:Nat.min len2 len=n at*
 have hl:((cs2.toList.drop o2).take n).length=n:=by
  rw[List.length_take,List.length_drop]
  have:cs2.toList.length=cs2.size:=by simp
  omega
 have hat: ∀j,j<n→((cs2.toList.drop o2).take n)[j]? =some (cs2.getD (o2+j) undef):=fun j hj=>by
  have:o2+j<cs2.size:=by omega
  rw[List.getElem?_take,if_pos hj,List.getElem?_drop]
  simp[Array.getD_eq_getD_getElem?,this]
 have hrun:=run_copy_row (P:=P) w t u ty e' b (o*1) len kcap ⟨b2,o2*1,none⟩ len2 kcap2 cs tyr ((cs2.toList.drop o2).take n) (c7 k hd) (by rw[k'.info];simp[k'.size,hsz]) hrw (by rw[hl,hn0])
  (fun j v hv=>by
   have hj:j<n:=by have:=(List.getElem?_eq_some_iff.1 hv).1;omega
   rw[hat j hj]at hv
   injection hv with hv
   subst hv
   have ea:(⟨b2,o2*1,none⟩:Addr).add j=⟨b2,o2+j,none⟩:=by unfold Addr.add;split<;>simp_all
   have:o2+j<cs2.size:=by omega
   rw[ea]
   simp[World.cell?,hrw2,Array.getD_eq_getD_getElem?,this]) (by omega) (fun v hv=>by
   obtain⟨j,hj⟩:=List.getElem?_of_mem hv
   have hj':j<n:=by have:=(List.getElem?_eq_some_iff.1 hj).1;omega
   rw[hat j hj']at hj
   injection hj with hj
   subst hj
   exact(hcs2 (o2+j) (by omega)).one)
 simp only[Nat.mul_one]at hrun⊢
 rw[hl]at hrun
 have hrow':(cs.toList.take o++(cs2.toList.drop o2).take n++cs.toList.drop (o+n)).toArray=(pM cs.toList o ((cs2.toList.drop o2).take n)).toArray:=by
  unfold pM;rw[hl,List.append_assoc]
 rw[hrow']at hrun
 have hcl:cs.toList.length=cs.size:=by simp
 have hfit:o+((cs2.toList.drop o2).take n).length≤cs.toList.length:=by omega
 obtain⟨g1,g2⟩:=m.write hb c' cs (pM cs.toList o ((cs2.toList.drop o2).take n)).toArray tyr hrw (by simp[zN hfit]) (by simp[zN hfit];omega) (fun q hq=>by
  rw[hcs]at hq
  rw[hc' q hq]
  have e:(pM cs.toList o ((cs2.toList.drop o2).take n)).toArray.getD q undef=(pM cs.toList o ((cs2.toList.drop o2).take n)).getD q undef:=by
   simp[Array.getD_eq_getD_getElem?,List.getD_eq_getElem?_getD]
  rw[e,GU hfit,hl]
  by_cases hq2:o≤q∧q<o+n
  ·rw[if_pos hq2,if_pos hq2,List.getD_eq_getElem?_getD,hat (q-o) (by omega)]
   exact hcs2 (o2+(q-o)) (by omega)
  ·rw[if_neg hq2,if_neg hq2]
   have:=hcs1 q hq
   simpa [Array.getD_eq_getD_getElem?,List.getD_eq_getElem?_getD]using this)
 exact⟨_,_,ρ,hrun,g1,by simpa [cZ]using g2,.c _ _ (.int _ _)⟩
include hT hg m in
theorem MR {t u ty:Nat} {x y:AV} {v vy:Value} (hx:AVR X w ρ x v) (hy:AVR X w ρ y vy) {e:Eff} (he:L8 tt get t x y=some e) (ho: ∀b∈e.obl,b=true):Res X P w0 M h ρ w e (Builtin.copy_ #[t,u] ty #[v,vy]):=by
 unfold L8 at he
 replace he:=Option.bind_eq_some_iff.1 he
 obtain⟨ti,hti,he⟩:=he
 obtain⟨i,z,d,k⟩:=bR hT hti
 split at he
 ·rename_i e' id o len cap id2 o2 len2 cap2 hd
  replace he:=Option.bind_eq_some_iff.1 he
  obtain⟨te,hte,he⟩:=he
  obtain⟨i',z',d',k'⟩:=bR hT hte
  cases hq:decide (te.size=1)with
  |false=>rw[hq]at he;cases he
  |true=>
  rw[hq,cond_true]at he
  have hsz:=of_decide_eq_true hq
  have key: ∀ {α:Type} {xs ys:List α} {d:α},o+len≤xs.length→o2+len2≤ys.length→(pM xs o ((ys.drop o2).take (Nat.min len2 len))).length=xs.length∧ ∀q,(pM xs o ((ys.drop o2).take (Nat.min len2 len))).getD q d=if o≤q∧q<o+Nat.min len2 len then ys.getD (o2+(q-o)) d else xs.getD q d:=fun {α xs ys d} h3 h4=>by
   have hm1:Nat.min len2 len≤len:=Nat.min_le_right _ _
   have hm2:Nat.min len2 len≤len2:=Nat.min_le_left _ _
   have hl:((ys.drop o2).take (Nat.min len2 len)).length=Nat.min len2 len:=by rw[List.length_take,List.length_drop];omega
   refine⟨zN (by omega),fun q=> ?_⟩
   rw[GU (by omega),hl]
   by_cases hq2:o≤q∧q<o+Nat.min len2 len
   ·rw[if_pos hq2,if_pos hq2,List.getD_eq_getElem?_getD,List.getElem?_take,if_pos (by omega),List.getElem?_drop,List.getD_eq_getElem?_getD]
   ·rw[if_neg hq2,if_neg hq2]
  split at he
  ·rename_i kk xs kk' ys hs hs2
   split at he
   ·rename_i hkk
    subst hkk
    injection he with he;subst he
    simp only[List.mem_cons,List.not_mem_nil,or_false,forall_eq_or_imp,forall_eq,decide_eq_true_eq]at ho
    obtain⟨h1,h2,h3,h4⟩:=ho
    obtain⟨s1,s2⟩:=key (d:=(0:Int)) h3 h4
    exact wC hT m hg k k' hd hsz hs hs2 hx hy h1 h2 h3 h4 s1 fun q hq=>by
     show aI.int kk _=_
     rw[s2 q]
     split<;>rfl
   ·cases he
  ·rename_i xs ys hs hs2
   injection he with he;subst he
   simp only[List.mem_cons,List.not_mem_nil,or_false,forall_eq_or_imp,forall_eq,decide_eq_true_eq]at ho
   obtain⟨h1,h2,h3,h4⟩:=ho
   obtain⟨s1,s2⟩:=key (d:=false) h3 h4
   exact wC hT m hg k k' hd hsz hs hs2 hx hy h1 h2 h3 h4 s1 fun q hq=>by
    show aI.bool _=_
    rw[s2 q]
    split<;>rfl
  ·cases he
 ·cases he
end
end
section
variable {X : Nat → Prop}
def w7 (P:Program) (f:FuncId) (args:List AV) (get:Get) (base:Nat) (e:Eff):Prop:=
 (∃fn,P.funcs[f]? =some fn∧fn.body.isSome=true∧(fn.name== "runtime.NumGoroutine")=false)∧
 ∀ {X:Nat→Prop} {w0 w:World} {M:Nat→Prop} {h:List aV} {ρ:Rho},Mem X w0 M h ρ w→(∀id c,get id=.live c→Heap.get h id=.live c)→
  (∀i,i<8→Heap.get h (base+i)=.unborn∧base+i<h.length)→ ∀(vs:List Value),vs.length=args.length→(∀q,q<args.length→AVR X w ρ (args.getD q .any) (vs.getD q undef))→
  Calls P f vs.toArray w fun e' w'=> ∃v ρ',e'=.returned v∧bN w ρ w' ρ'∧Mem X w0 M (cZ h e.sets) ρ' w'∧AVR X w' ρ' e.val v
def bL (P:Program) (ct:CT):Prop:= ∀f args get base e,ct f args get base=some e→(∀b∈e.obl,b=true)→w7 P f args get base e
section
variable {P : Program} {tt : Tab} (hT : iK P tt) {ct : CT} (hct : bL P ct) {w0 w : World} {M : Nat → Prop} {h : List aV} {ρ : Rho} (m : Mem X w0 M h ρ w)
 {get:Get} (hg: ∀id c,get id=.live c→Heap.get h id=.live c) {base:Nat}
theorem bP {o:Oper} {a:Act} {next:Act→World→Prop} {Q:Exit→Act→World→Prop} {s:Sem Value} {e:Eff} (hs:execOp a.eval o=(do let x←s;pure (Next.value x))) (r:Res X P w0 M h ρ w e s)
  (hn: ∀v w' ρ',bN w ρ w' ρ'→Mem X w0 M (cZ h e.sets) ρ' w'→AVR X w' ρ' e.val v→next (a.put o.dst v) w'):o.wp P a w next Q:=by
 obtain⟨v,w',ρ',h1,h2,h3,h4⟩:=r
 unfold Oper.wp
 rw[hs]
 simp only[Sem.run_bind,h1,Result.andThen_ok,Sem.run_pure]
 exact hn v w' ρ' h2 h3 h4
theorem FD {o:Oper} {a:Act} {next:Act→World→Prop} {Q:Exit→Act→World→Prop} {s:Sem Unit} {e:Eff} (hs:execOp a.eval o=(do s;pure Next.skip)) (r:ZM X P w0 M h ρ w e s)
  (hn: ∀v w' ρ',bN w ρ w' ρ'→Mem X w0 M (cZ h e.sets) ρ' w'→AVR X w' ρ' e.val v→next (a.put o.dst v) w'):o.wp P a w next Q:=by
 obtain⟨w',ρ',h1,h2,h3,h4⟩:=r
 unfold Oper.wp
 rw[hs]
 simp only[Sem.run_bind,h1,Result.andThen_ok,Sem.run_pure]
 exact hn undef w' ρ' h2 h3 (by rw[h4];exact .tup [] #[] rfl (fun i hi=>by simp at hi))
theorem lW {w:World} {ρ:Rho} {ev:Operand→AV} {f:Operand→Value} (hev: ∀x,AVR X w ρ (ev x) (f x)): ∀ {l:List Operand} {cs:List aI},i5 (l.map ev)=some cs→LR X w ρ cs (l.map f)
 |[],cs,h=>by simp[i5]at h;subst h;exact LR.nil w ρ
 |x::l,cs,h=>by
  simp only[List.map_cons]at h⊢
  cases hx:ev x with
  |c y=>
   rw[hx]at h
   simp only[i5]at h
   obtain⟨r,h1,h2⟩:=Option.map_eq_some_iff.1 h
   subst h2
   have:=hev x;rw[hx]at this
   exact LR.cons (cO this) (lW hev h1)
  |any=>rw[hx]at h;simp[i5]at h
  |agg l=>rw[hx]at h;simp[i5]at h
  |tup l=>rw[hx]at h;simp[i5]at h
theorem gL {α:Type} {a:Array α} {l:List α} (h:a.toList=l):a=l.toArray:=by rw[←h]
include hT hct m hg in
set_option maxHeartbeats 1000000 in
theorem HA {o:Oper} {a:Act} {ev:Operand→AV} (hev: ∀x,AVR X w ρ (ev x) (a.eval x)) (hb: ∀i,i<slots o.op→Heap.get h (base+i)=.unborn∧base+i<h.length)
  {e:Eff} (he:aop tt ct get base ev o.op=some e) (ho: ∀b∈e.obl,b=true) {next:Act→World→Prop} {Q:Exit→Act→World→Prop}
  (hn: ∀v w' ρ',bN w ρ w' ρ'→Mem X w0 M (cZ h e.sets) ρ' w'→AVR X w' ρ' e.val v→next (a.put o.dst v) w'):o.wp P a w next Q:=by
 obtain⟨dst,op,type,pos,after,guard⟩:=o
 dsimp only at he hb
 cases op<;>simp only[aop]at he<;>try (cases he;done)
 case move x=>exact bP (s:=pure (a.eval x)) rfl (uO m he (hev x)) hn
 case assign x=>exact bP (s:=pure (a.eval x)) rfl (uO m he (hev x)) hn
 case pick c x y=>exact bP (s:=do pure (if←asBool (a.eval c)then a.eval x else a.eval y)) (by simp[execOp]) (MT m (hev c) (hev x) (hev y) he ho) hn
 case alloc t=>
  obtain⟨b1,b2⟩:=hb 0 (by simp[slots])
  exact bP (s:=Instr.alloc t true (.tuple #[])) rfl (J1 hT m hg b1 b2 he ho) hn
 case box t x=>
  obtain⟨b1,b2⟩:=hb 0 (by simp[slots])
  exact bP (s:=Instr.box t (a.eval x)) rfl (QO hT m hg b1 b2 (hev x) he ho) hn
 case build t parts=>
  refine bP (s:=Instr.build t (parts.map fun(i,x)=>(i,a.eval x))) rfl (J3 hT m (parts:=parts.toList.map fun(i,x)=>(i,a.eval x)) ?_ ?_ he (by simp)) hn
  ·simp[List.map_map,Function.comp_def]
  ·intro q hq
   simp only[List.length_map]at hq
   simp only[List.getD_eq_getElem?_getD,List.getElem?_map,List.getElem?_eq_getElem hq,Option.map_some,Option.getD_some]
   exact hev _
 case buildSlice t n parts=>
  obtain⟨b1,b2⟩:=hb 0 (by simp[slots])
  refine bP (s:=Instr.buildSlice t n (parts.map fun(i,x)=>(i,a.eval x))) rfl (uN hT m hg b1 b2 (parts:=parts.toList.map fun(i,x)=>(i,a.eval x)) ?_ ?_ he ho (by simp)) hn
  ·simp[List.map_map,Function.comp_def]
  ·intro q hq
   simp only[List.length_map]at hq
   simp only[List.getD_eq_getElem?_getD,List.getElem?_map,List.getElem?_eq_getElem hq,Option.map_some,Option.getD_some]
   exact hev _
 case load t x=>exact bP (s:=Instr.loadAt t (a.eval x)) rfl (MS hT m hg (hev x) he ho) hn
 case store t x y=>exact FD (s:=Instr.storeAt t (a.eval x) (a.eval y)) rfl (J8 hT m hg (hev x) (hev y) he ho) hn
 case nilCheck x=>
  obtain⟨e1,e2⟩:=HQ m hg (hev x) he
  subst e1
  have:execOp a.eval {dst,op:=.nilCheck x,type,pos,after,guard}=(do let x←(pure (a.eval x):Sem Value);pure (Next.value x)):=by
   rcases e2 with⟨ad,e2⟩|⟨f,vs,e2⟩<;>simp only[execOp,e2]<;>rfl
  exact bP this (uO m rfl (hev x)) hn
 case binOp op t x y yt=>exact bP (s:=oL op t x y (a.eval x) (a.eval y)) rfl (J2 hT m (hev x) (hev y) he ho) hn
 case unOp op t x=>exact bP (s:=Op.unary op (a.eval x)) rfl (MU m (hev x) he) hn
 case convert s t x=>exact bP (s:=convert s t (a.eval x)) rfl (BS hT m hg (hev x) he ho) hn
 case makeFunc fn first caps=>
  cases fn<;>simp only[aop]at he<;>try (cases he;done)
  rename_i f
  split at he
  ·rename_i hf
   replace he:=Option.bind_eq_some_iff.1 he
   obtain⟨l,hl,he⟩:=he
   injection he with he;subst he
   have hlr:=lW (f:=a.eval) hev hl
   have e1:=gL hf
   subst e1
   refine bP (s:=Instr.makeFunc (.func f) (#[].map a.eval) (caps.map a.eval)) rfl ⟨_,w,ρ,rfl,bN.refl _ _,m,.c _ _ ?_⟩ hn
   have:=CR0.fn (w:=w) (L:=fun b=>b9 ρ b∨X b) (ρ:=ρ) f l (caps.map a.eval) (by have:=hlr.1;simpa using this) (fun i hi=>by
    have:=hlr.2 i hi;simpa [Array.getD_eq_getD_getElem?,List.getD_eq_getElem?_getD]using this)
   simpa using this
  ·cases he
 case makeSlice t x y=>
  obtain⟨b1,b2⟩:=hb 0 (by simp[slots])
  exact bP (s:=Instr.makeSlice t (a.eval x) (a.eval y)) rfl (vW hT m b1 b2 (hev x) (hev y) he ho) hn
 case slice t x lo hi mx=>
  refine bP (s:=Instr.sliceAt t (a.eval x) (lo.map a.eval) (hi.map a.eval) (mx.map a.eval)) rfl (J7 hT m hg (hev x) ?_ ?_ ?_ ?_ ?_ ?_ he ho) hn
  ·intro y hy;obtain⟨x',h1,h2⟩:=Option.map_eq_some_iff.1 hy;exact⟨a.eval x',by simp[h1],by rw[←h2];exact hev x'⟩
  ·intro hy;cases lo<;>simp at hy⊢
  ·intro y hy;obtain⟨x',h1,h2⟩:=Option.map_eq_some_iff.1 hy;exact⟨a.eval x',by simp[h1],by rw[←h2];exact hev x'⟩
  ·intro hy;cases hi<;>simp at hy⊢
  ·intro y hy;obtain⟨x',h1,h2⟩:=Option.map_eq_some_iff.1 hy;exact⟨a.eval x',by simp[h1],by rw[←h2];exact hev x'⟩
  ·intro hy;cases mx<;>simp at hy⊢
 case fieldAddr t x f=>exact bP (s:=Instr.fieldAt t (a.eval x) f) rfl (vU hT m hg (hev x) he) hn
 case field t x f=>exact bP (s:=Instr.field t (a.eval x) f) rfl (J5 hT m (hev x) he) hn
 case indexAddr t x i=>exact bP (s:=Instr.indexAt t (a.eval x) (a.eval i)) rfl (vV hT m hg (hev x) (hev i) he ho) hn
 case index t x i=>exact bP (s:=Instr.index t (a.eval x) (a.eval i)) rfl (J6 hT m (hev x) (hev i) he ho) hn
 case extract x i=>exact bP (s:=Instr.extract (a.eval x) i) rfl (BT m (hev x) he) hn
 case call c=>
  obtain⟨callee,args,argTypes⟩:=c
  cases callee with
  |invoke r s=>simp only[aop]at he;cases he
  |builtin b=>
   simp only[aop]at he
   split at he
   ·rename_i x t h1 h2
    have e1:=gL h1;have e2:=gL h2
    subst e1 e2
    exact bP (s:=Builtin.len_ #[t] type #[a.eval x]) (by simp[execOp,resolve,invoke,builtin]) (QP hT m hg (hev x) he) hn
   ·rename_i s x t u h1 h2
    have e1:=gL h1;have e2:=gL h2
    subst e1 e2
    obtain⟨b1,b2⟩:=hb 0 (by simp[slots])
    split at he
    ·rename_i kx nI hxe
     have hx':=hev x
     rw[hxe]at hx'
     exact bP (s:=Builtin.append_ #[t,u] type #[a.eval s,a.eval x]) (by simp[execOp,resolve,invoke,builtin]) (BR hT m hg b1 b2 (hev s) hx' he ho) hn
    ·exact bP (s:=Builtin.append_ #[t,u] type #[a.eval s,a.eval x]) (by simp[execOp,resolve,invoke,builtin]) (F1 hT m hg b1 b2 (hev s) (hev x) he ho) hn
   ·rename_i x t h1 h2
    have e1:=gL h1;have e2:=gL h2
    subst e1 e2
    exact bP (s:=Builtin.clear_ #[t] type #[a.eval x]) (by simp[execOp,resolve,invoke,builtin]) (J4 hT m hg (hev x) he ho) hn
   ·rename_i x y t u h1 h2
    have e1:=gL h1;have e2:=gL h2
    subst e1 e2
    exact bP (s:=Builtin.copy_ #[t,u] type #[a.eval x,a.eval y]) (by simp[execOp,resolve,invoke,builtin]) (MR hT m hg (hev x) (hev y) he ho) hn
   ·rename_i l x y h1
    have e1:=gL h1
    subst e1
    exact bP (s:=Builtin.max_ argTypes type #[a.eval x,a.eval y]) (by simp[execOp,resolve,invoke,builtin]) (QQ m (hev x) (hev y) he) hn
   ·rename_i l x y h1
    have e1:=gL h1
    subst e1
    exact bP (s:=Builtin.min_ argTypes type #[a.eval x,a.eval y]) (by simp[execOp,resolve,invoke,builtin]) (QR m (hev x) (hev y) he) hn
   ·cases he
  |value f=>
   simp only[aop]at he
   have hf:=hev f
   split at he
   ·rename_i F caps h1
    rw[h1]at hf
    obtain⟨vs,e1,hlr⟩:=LH m hf
    obtain⟨⟨fn,f1,f2,f3⟩,hcall⟩:=hct _ _ _ _ _ he ho
    have hcalls:=hcall m hg (fun i hi=>hb i (by simpa [slots]using hi)) (args.toList.map a.eval++vs.toList) (by have:=hlr.1;simp at this;simp[this]) (fun q hq=>by
     simp only[List.length_append,List.length_map]at hq
     by_cases h2:q<args.toList.length
     ·simp only[List.getD_eq_getElem?_getD,List.getElem?_append,List.length_map,h2,if_true,List.getElem?_map,List.getElem?_eq_getElem h2,Option.map_some,Option.getD_some]
      exact hev _
     ·have h3:q-args.toList.length<caps.length:=by omega
      have:=hlr.2 _ h3
      simp only[List.getD_eq_getElem?_getD,List.getElem?_append,List.length_map,h2,if_false,List.getElem?_map]at this⊢
      rw[List.getElem?_eq_getElem h3]at this⊢
      exact .c _ _ this)
    have hb0:fn.body.isNone=false:=by cases hbd:fn.body<;>simp[hbd]at f2⊢
    have hrun:(execOp a.eval {dst,op:=.call {callee:=.value f,args,argTypes},type,pos,after,guard}).run P w=.ok (.enter F (args.toList.map a.eval++vs.toList).toArray) w:=by
     have harr:(args.toList.map a.eval++vs.toList).toArray= #[]++args.map a.eval++vs:=by
      apply Array.ext';simp
     rw[harr]
     have f3': ¬fn.name= "runtime.NumGoroutine" :=by simpa using f3
     have hb0': ¬fn.body=none:=by cases hbd:fn.body<;>simp[hbd]at f2⊢
     simp[execOp,resolve,e1,Deferred.ofValue,invoke,callFunc,program,Sem.run,f1,f3',hb0']
    unfold Oper.wp
    rw[hrun]
    refine hcalls.mono ?_
    rintro e' w' ⟨v,ρ',rfl,g1,g2,g3⟩
    exact hn v w' ρ' g1 g2 g3
   ·cases he
end
end
section
variable {X : Nat → Prop}
def hG (w0:World) (l:List Deferred) (w:World):Prop:= ∃Ds:List Nat,Ds.Nodup∧l=Ds.map (fun D=> {target:=.collected D,args:= #[]})∧ ∀D∈Ds,w0.heap.size≤D∧w.heap[D]? =some (.deferred (some []))
theorem hG.nil (w0 w:World):hG w0 [] w:=⟨[],.nil,rfl,fun d hd=>by cases hd⟩
theorem hG.keep {w0 w w':World} {l:List Deferred} (h:hG w0 l w) (e: ∀D:Nat,w.heap[D]? =some (.deferred (some []))→w'.heap[D]? =some (.deferred (some []))):hG w0 l w':=by
 obtain⟨Ds,h1,h2,h3⟩:=h
 exact⟨Ds,h1,h2,fun D hD=>⟨(h3 D hD).1,e D (h3 D hD).2⟩⟩
theorem Mem.noMark {w0 w:World} {M:Nat→Prop} {h:List aV} {ρ:Rho} (m:Mem X w0 M h ρ w) {D:Nat} {o:Option (List Deferred)} (hd:w.heap[D]? =some (.deferred o)): ¬b9 ρ D:=fun⟨id,hid⟩=>by
 have hs:=m.slot id
 rw[hid]at hs
 cases hg:Heap.get h id<;>rw[hg]at hs
 case live c=>
  obtain⟨cs,ty,e,_⟩:=hs
  rw[hd]at e;cases e
 all_goals exact hs
theorem hG.mono {w0 w w':World} {M:Nat→Prop} {h:List aV} {ρ ρ':Rho} {l:List Deferred} (k:hG w0 l w) (m:Mem X w0 M h ρ w) (mo:bN w ρ w' ρ'):hG w0 l w':=
 k.keep fun D h3=>by rw[mo.keep D (Array.getElem?_eq_some_iff.1 h3).1 (m.noMark h3)];exact h3
section
variable {w : World} {D : Nat} {o o' : Option (List Deferred)} (hd : w.heap[D]? = some (.deferred o))
include hd
theorem cell?_shut (a:Addr):(w.putObj D (.deferred o')).cell? a=w.cell? a:=by
 unfold World.cell?
 by_cases e:a.block=D
 ·rw[e,World.putObj_heap_same (Array.getElem?_eq_some_iff.1 hd).1,hd]
 ·rw[World.putObj_heap_other e]
theorem shape?_shut (b:Nat):(w.putObj D (.deferred o')).shape? b=w.shape? b:=by
 unfold World.shape?
 by_cases e:b=D
 ·rw[e,World.putObj_heap_same (Array.getElem?_eq_some_iff.1 hd).1,hd]
 ·rw[World.putObj_heap_other e]
theorem CR0.shut {L:Nat→Prop} {ρ:Rho} {c:aI} {v:Value} (h:CR0 w L ρ c v):CR0 (w.putObj D (.deferred o')) L ρ c v:=by
 induction h with
 |any v h=>exact .any v h
 |int k n=>exact .int k n
 |bool b=>exact .bool b
 |str s=>exact .str s
 |nilp=>exact .nilp
 |nils=>exact .nils
 |nilf=>exact .nilf
 |ptrDead id i es j v hd h=>exact .ptrDead id i es j v hd h
 |ptr id i es j b hb=>exact .ptr id i es j b hb
 |slDead id o len es cap v hd h=>exact .slDead id o len es cap v hd h
 |sl id o len es cap b c ty n hb hs hn hl hc=>exact .sl id o len es cap b c ty n hb (by rw[shape?_shut hd];exact hs) hn hl hc
 |slNone id o es cap a h1 hc=>exact .slNone id o es cap a h1 hc
 |vptr c i es j b base u hl hc hu ih=>exact .vptr c i es j b base u hl (fun q hq=>by rw[cell?_shut hd];exact hc q hq) ih
 |view nl c len es cap b base k u hl hc hu hz hk hcap hnl ih=>exact .view nl c len es cap b base k u hl (fun q hq=>by rw[cell?_shut hd];exact hc q hq) ih hz hk hcap hnl
 |viewNone nl c es cap a k hz hcap hnl hk=>exact .viewNone nl c es cap a k hz hcap hnl hk
 |fn f caps vs hs h ih=>exact .fn f caps vs hs ih
theorem AVR.shut {ρ:Rho} {x:AV} {v:Value} (h:AVR X w ρ x v):AVR X (w.putObj D (.deferred o')) ρ x v:=by
 induction h with
 |any v=>exact .any v
 |c x v h=>exact .c x v (CR0.shut hd h)
 |agg cs vs hs h=>exact .agg cs vs hs fun i hi=>CR0.shut hd (h i hi)
 |tup l vs hs h ih=>exact .tup l vs hs ih
theorem Mem.shut {w0:World} {M:Nat→Prop} {h:List aV} {ρ:Rho} (m:Mem X w0 M h ρ w) (hD:w0.heap.size≤D):Mem X w0 M h ρ (w.putObj D (.deferred o')):=by
 refine⟨fun id=> ?_,m.inj,m.own,m.os,m.tape,m.output,by rw[World.putObj_size];exact m.size,fun k hk hM=>by rw[World.putObj_heap_other (by omega)];exact m.keep k hk hM,m.foreign⟩
 have hs:=m.slot id
 cases hg:Heap.get h id<;>cases hr:ρ id<;>rw[hg,hr]at hs<;>try exact hs
 obtain⟨cs,ty,e,h1,h2⟩:=hs
 refine⟨cs,ty, ?_,h1,fun q hq=>CR0.shut hd (h2 q hq)⟩
 rw[World.putObj_heap_other (fun e'=>by subst e';rw[hd]at e;cases e)];exact e
end
structure Rel (X:Nat→Prop) (w0:World) (ρ0:Rho) (s:St) (ρ:Rho) (a:Act) (w:World):Prop where
 size:a.tmps.size=s.tmps.length
 tmps: ∀t,t<s.tmps.length→AVR X w ρ (s.tmps.getD t (.tup [])) (a.tmps.getD t undef)
 mem:Mem X w0 (b9 ρ0) s.heap ρ w
 defers:hG w0 a.defers w
 mono:cY w0 (b9 ρ0) w (b9 ρ)
 ids:cC ρ0 ρ
abbrev FW (ro:Option Nat):Fence:= {Fence.wide with round:=ro}
theorem LL {ro:Option Nat} {n:Nat} {P:Program} {f:FuncId} {args:Array Value} {w:World} {R:Ending→World→Prop} (h:Calls P f args w R):CallsIn (FW ro) n P f args w R:=by
 have h':=callsIn_wide (n:=n).2 h
 cases ro with
 |none=>exact h'
 |some l=>exact CallsIn.inRound l h'
theorem a4X {ro:Option Nat} {n:Nat} {P:Program} {o:Oper} {a:Act} {w:World} {K:Act→World→Prop} {Q:Exit→Act→World→Prop} (hd: ∀c,o.op≠ .defer c) (h:o.wp P a w K Q):o.wpIn (FW ro) n P a w K Q:=by
 refine⟨fun _ _=>trivial, ?_⟩
 unfold Oper.wp at h
 rw[Oper.semAt_eq _ _ _ hd]
 generalize (execOp a.eval o).run P w=r at h
 cases r with
 |ok x w'=>
  cases x<;>simp only[Oper.upon,Oper.uponIn]at h⊢ <;>first|exact h|exact⟨fun h=>(by cases h),LL h⟩|exact⟨fun h=>(by cases h),fun c cs _=>by obtain⟨v,w',r,s⟩:=h c cs;exact⟨v,w',r,stepsIn_wide.2 s⟩⟩
 |halt x w'=>cases x<;>simp only[Oper.upon,Oper.uponIn]at h⊢ <;>exact h
theorem oK (w:World) (ρ:Rho):AVR X w ρ (.tup []) undef:=.tup [] #[] rfl (fun i hi=>by simp at hi)
theorem n0 {w:World} {ρ:Rho} {v:Value} (h:v.oneCell'=true):CR X w ρ (yH v) v:=by
 unfold yH
 split
 ·exact .int _ _
 ·exact .bool _
 ·exact .str _
 ·exact .nilp
 ·exact .nils
 ·exact .nilf
 ·exact .fn _ [] #[] rfl (fun i hi=>by simp at hi)
 ·exact .any _ h
theorem vQ {w:World} {ρ:Rho} (v:Value):AVR X w ρ (yX v) v:=by
 unfold yX
 split
 ·rename_i cs
  cases h:cs.toList.all Value.oneCell' with
  |false=>exact .any _
  |true=>
   refine AVR.of_lr ⟨by simp,fun i hi=> ?_⟩
   simp only[List.length_map]at hi
   have h1:(cs.toList[i]).oneCell'=true:=List.all_eq_true.1 h _ (List.getElem_mem hi)
   simp only[List.getD_eq_getElem?_getD,List.getElem?_map,List.getElem?_eq_getElem hi,Option.map_some,Option.getD_some]
   exact n0 h1
 ·exact .tup [] #[] rfl (fun i hi=>by simp at hi)
 ·exact .any _
 ·rename_i h1 h2 h3
  refine .c _ _ (n0 ?_)
  cases v<;>first|rfl|exact absurd rfl (h1 _)|exact absurd rfl (h3 _)
theorem Rel.ev {w0 w:World} {ρ0:Rho} {s:St} {ρ:Rho} {a:Act} (r:Rel X w0 ρ0 s ρ a w) (x:Operand):AVR X w ρ (s.ev x) (a.eval x):=by
 cases x with
 |tmp t=>
  show AVR X w ρ (s.tmps.getD t (.tup [])) (a.tmps.getD t undef)
  by_cases h:t<s.tmps.length
  ·exact r.tmps t h
  ·have h2: ¬t<a.tmps.size:=by rw[r.size];exact h
   have e1:s.tmps.getD t (.tup [])=.tup []:=by simp[List.getD_eq_getElem?_getD,List.getElem?_eq_none (Nat.le_of_not_lt h)]
   have e2:a.tmps.getD t undef=undef:=by simp[Array.getD,h2]
   rw[e1,e2];exact oK w ρ
 |const v=>exact vQ v
 |global g=>exact .any _
 |func f=>exact .c _ _ (.fn f [] #[] rfl (fun i hi=>by simp at hi))
theorem Rel.apply {w0 w w':World} {ρ0:Rho} {s:St} {ρ ρ':Rho} {a:Act} (r:Rel X w0 ρ0 s ρ a w) {dst:Option Nat} {e:Eff} {v:Value} (m:bN w ρ w' ρ')
  (hm:Mem X w0 (b9 ρ0) (cZ s.heap e.sets) ρ' w') (hv:AVR X w' ρ' e.val v):Rel X w0 ρ0 (dK s dst e) ρ' (a.put dst v) w':=by
 cases dst with
 |none=>exact⟨r.size,fun t ht=>(r.tmps t ht).mono m,hm,r.defers.mono r.mem m,r.mono.trans m.toB,r.ids.trans m.ids⟩
 |some d=>
  refine⟨by simp[dK,rA,Act.put,r.size],fun t ht=> ?_,hm,r.defers.mono r.mem m,r.mono.trans m.toB,r.ids.trans m.ids⟩
  simp only[dK,rA,List.length_set]at ht
  by_cases e:t=d
  ·subst e
   have h2:t<a.tmps.size:=by rw[r.size];exact ht
   simpa [dK,rA,Act.put,List.getD_eq_getElem?_getD,ht,Array.getD,h2]using hv
  ·have e': ¬d=t:=fun x=>e x.symm
   have:=(r.tmps t ht).mono m
   simpa [dK,rA,Act.put,List.getD_eq_getElem?_getD,List.getElem?_set,e',Array.getD_eq_getD_getElem?,Array.getElem?_setIfInBounds_ne e']using this
theorem HV {h:List aV} {fp:List Nat} {id:Nat} {c:Con} (e:only h fp id=.live c):Heap.get h id=.live c:=by
 unfold only at e
 cases hf:fp.elem id with
 |true=>rw[hf]at e;exact e
 |false=>rw[hf]at e;cases e
section
variable {P : Program} {tt : Tab} (hT : iK P tt) {ct : CT} (hct : bL P ct) {w0 w : World} {ρ0 : Rho} {ops : Array Oper} {ro : Option Nat} {n : Nat}
theorem wP {s:St} {ρ:Rho} {a:Act} (r:Rel X w0 ρ0 s ρ a w) {j:Nat} {b:Bool} (h:vP ops s.tmps j=.c (.bool b)):yielded ops a.tmps j=some b:=by
 unfold vP at h
 unfold yielded
 split at h
 ·rename_i d hd
  by_cases hl:d<s.tmps.length
  ·have:=r.tmps d hl
   rw[h]at this
   have e:=fW this
   have h2:d<a.tmps.size:=by rw[r.size];exact hl
   simp[Array.getD,h2]at e
   simp[hd,h2,e]
  ·simp[List.getD_eq_getElem?_getD,List.getElem?_eq_none (Nat.le_of_not_lt hl)]at h
 ·cases h
theorem HM {s:St} {ρ:Rho} {a:Act} (r:Rel X w0 ρ0 s ρ a w) {j:Nat} (h:vP ops s.tmps j=.tup []):yielded ops a.tmps j=none:=by
 unfold vP at h
 unfold yielded
 split at h
 ·rename_i d hd
  by_cases hl:d<s.tmps.length
  ·have:=r.tmps d hl
   rw[h]at this
   have h2:d<a.tmps.size:=by rw[r.size];exact hl
   have e: ∃vs,a.tmps.getD d undef=.tuple vs:=by
    generalize a.tmps.getD d undef=v at this
    cases this;exact⟨_,rfl⟩
   obtain⟨vs,e⟩:=e
   simp[Array.getD,h2]at e
   simp[hd,h2,e]
  ·have h2: ¬d<a.tmps.size:=by rw[r.size];exact hl
   simp[hd,Array.getElem?_eq_none (Nat.le_of_not_lt h2)]
 ·rename_i hd
  simp[hd]
include hT hct in
theorem v5 {Q:Exit→Act→World→Prop} {K:Act→World→Prop} {s:St} {ρ:Rho} {a:Act} (r:Rel X w0 ρ0 s ρ a w) {i:Nat} {o:Oper} (hi:ops[i]? =some o) {base:Nat} {dec:Option Bool}
  {fp:List Nat} {e:Eff} (hs:iF tt ct ops s o base dec=some (fp,e)) (ho: ∀b∈e.obl,b=true) (hb: ∀k,k<slots o.op→Heap.get s.heap (base+k)=.unborn∧base+k<s.heap.length)
  (hK: ∀a' w' ρ',Rel X w0 ρ0 (dK s o.dst e) ρ' a' w'→K a' w'):wpOpIn (FW ro) n P ops Q i K a w:=by
 unfold iF at hs
 dsimp only at hs
 unfold wpOpIn
 simp only[hi]
 have run: ∀e,aop tt ct (only s.heap (fpO o.op s.heap ((cR o).map s.ev))) base s.ev o.op=some e→(∀b∈e.obl,b=true)→(∀a' w' ρ',Rel X w0 ρ0 (dK s o.dst e) ρ' a' w'→K a' w')→o.wpIn (FW ro) n P a w K Q:=by
  intro e he ho hK
  refine a4X (fun c hc=>by rw[hc]at he;cases he) ?_
  exact HA hT hct r.mem (fun id c h=>HV h) r.ev hb he ho (fun v w' ρ' g1 g2 g3=>hK _ _ ρ' (r.apply g1 g2 g3))
 have skip: ∀e:Eff,e.val=.tup []→e.sets=[]→(∀a' w' ρ',Rel X w0 ρ0 (dK s o.dst e) ρ' a' w'→K a' w')→K (a.put o.dst undef) w:=by
  intro e h1 h2 hK
  exact hK _ _ ρ (r.apply (bN.refl _ _) (by rw[h2];exact r.mem) (by rw[h1];exact oK w ρ))
 split at hs
 ·rename_i hg
  obtain⟨e',h1,h2⟩:=Option.map_eq_some_iff.1 hs
  injection h2 with h2 h3;subst h3
  have hw:Region.wanted o (yielded ops a.tmps)=true:=by simp[Region.wanted,hg]
  rw[if_pos hw]
  exact run _ h1 ho hK
 ·rename_i j want hg
  split at hs
  ·rename_i b hgv
   obtain⟨e',h1,h2⟩:=Option.map_eq_some_iff.1 hs
   injection h2 with h2 h3;subst h3
   have hb':(bif want then b else !b)=true:=ho _ (by simp)
   have hw:Region.wanted o (yielded ops a.tmps)=true:=by
    simp only[Region.wanted,hg,wP r hgv]
    cases want<;>simp at hb'⊢ <;>exact hb'
   rw[if_pos hw]
   exact run e' h1 (fun b hb=>ho b (by simp[hb])) hK
  ·cases hs
 ·rename_i j want hg
  split at hs
  ·rename_i b hgv
   injection hs with hs;injection hs with h1 h2;subst h2
   have hb':(bif want then !b else b)=true:=ho _ (by simp)
   have hw: ¬Region.wanted o (yielded ops a.tmps)=true:=by
    simp only[Region.wanted,hg,wP r hgv]
    cases want<;>cases b<;>simp at hb'⊢
   rw[if_neg hw]
   exact⟨fun _ _=>trivial,skip _ rfl rfl hK⟩
  ·rename_i hgv
   injection hs with hs;injection hs with h1 h2;subst h2
   have hw: ¬Region.wanted o (yielded ops a.tmps)=true:=by
    simp only[Region.wanted,hg,HM r hgv]
    cases want<;>simp
   rw[if_neg hw]
   exact⟨fun _ _=>trivial,skip _ rfl rfl hK⟩
  ·cases hs
 ·cases hs
inductive m6 (tt:Tab) (ct:CT) (ops:Array Oper):List Rec→St→St→Prop
 |nil (s:St):m6 tt ct ops [] s s
 |cons (r:Rec) (rs:List Rec) (s s':St) (hs:iF tt ct ops s r.o r.base r.dec=some (r.fp,r.eff)) (ho: ∀b∈r.eff.obl,b=true)
   (hb: ∀k,k<slots r.o.op→Heap.get s.heap (r.base+k)=.unborn∧r.base+k<s.heap.length) (h:m6 tt ct ops rs (dK s r.o.dst r.eff) s'):m6 tt ct ops (r::rs) s s'
include hT hct in
theorem v9 {Q:Exit→Act→World→Prop} {s':St} (hQ: ∀a w ρ,Rel X w0 ρ0 s' ρ a w→Q .normal a w):
  ∀ {rs:List Rec} {s:St} {ρ:Rho} {a:Act} {w:World},Rel X w0 ρ0 s ρ a w→m6 tt ct ops rs s s'→(∀r∈rs,ops[r.i]? =some r.o)→wpOpsIn (FW ro) n P ops Q (rs.map (·.i)) a w
 |[],s,ρ,a,w,r,h,_=>by cases h;exact hQ _ _ _ r
 |x::rs,s,ρ,a,w,r,h,hi=>by
  cases h with
  |cons _ _ _ _ hs ho hb h=>
   rw[List.map_cons,wpOpsIn_cons]
   exact v5 hT hct r (hi x List.mem_cons_self) hs ho hb fun a' w' ρ' r'=>v9 hQ r' h fun y hy=>hi y (List.mem_cons_of_mem _ hy)
end
end
end Go.Proofs.YtdnfojanjejdgaaGreat.Am
