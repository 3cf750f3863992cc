/- DERIVED. Part 2 of the proof: Am16, Am17, Am18, Am19, Am20, Am21, Am22, Am23, Am24, Am25, Am26, Tab, B0, C1, C2, C3, C4. No statement of the program is proved here. -/
import Derived.Test.YtdnfojanjejdgaaGreatX01
import Derived.LoopN
import Derived.Test.YtdnfojanjejdgaaGreatProg
set_option linter.unusedSimpArgs false
set_option linter.unusedVariables false
set_option linter.unusedSectionVars false
namespace Go.Proofs.YtdnfojanjejdgaaGreat.Am
section
variable {X : Nat → Prop}
theorem JG {s s':St} {l:List Tmp} (h: ∀t∈l,s.tmps.getD t (.tup [])=s'.tmps.getD t (.tup [])) {x:Operand} (hx: ∀t,x=.tmp t→t∈l):s.ev x=s'.ev x:=by
 cases x with
 |tmp t=>exact h t (hx t rfl)
 |const v=>rfl
 |global g=>rfl
 |func f=>rfl
set_option maxHeartbeats 1000000 in
theorem EY (tt:Tab) (ct:CT) (get:Get) (base:Nat) {ev ev':Operand→AV} (op:Op) (h: ∀x∈op.operands,ev x=ev' x):aop tt ct get base ev op=aop tt ct get base ev' op:=by
 have pairs: ∀ps:Array (Nat×Operand),(∀x∈(ps.toList.map (·.2)).toArray,ev x=ev' x)→(ps.toList.map fun(i,x)=>(i,ev x))=ps.toList.map fun(i,x)=>(i,ev' x):=fun ps hp=>
  List.map_congr_left fun p hm=>by
   obtain⟨i,x⟩:=p
   simp only[hp x (by simp only[List.mem_toArray];exact List.mem_map.2 ⟨(i,x),hm,rfl⟩)]
 have opt: ∀(o:Option Operand),(∀x∈o.toArray,ev x=ev' x)→o.map ev=o.map ev':=fun o ho=>by
  cases o with
  |none=>rfl
  |some x=>simp[ho x (by simp)]
 have arr: ∀(l:Array Operand),(∀x∈l,ev x=ev' x)→l.toList.map ev=l.toList.map ev':=fun l hl=>List.map_congr_left fun x hx=>hl x (by simpa using hx)
 cases op<;>simp only[Op.operands]at h<;>simp only[aop]
 case build t ps=>rw[pairs ps h]
 case buildSlice t n ps=>rw[pairs ps h]
 case makeFunc fn first caps=>
  cases fn<;>simp only[aop]
  rw[arr caps fun x hx=>h x (by simp[hx])]
 case slice t x lo hi mx=>
  rw[h x (by simp),opt lo fun x hx=>h x (by simp at hx⊢;simp[hx]),opt hi fun x hx=>h x (by simp at hx⊢;simp[hx]),opt mx fun x hx=>h x (by simp at hx⊢;simp[hx])]
 case call c=>
  obtain⟨callee,args,argTypes⟩:=c
  simp only[Call.operands]at h
  cases callee with
  |invoke r s=>rfl
  |value f=>
   simp only[aop]
   rw[h f (by simp),arr args fun x hx=>h x (by simp[hx])]
  |builtin b=>
   simp only[aop]
   have ha: ∀x∈args.toList,ev x=ev' x:=fun x hx=>h x (by simpa using hx)
   split
   ·rename_i x t h1 h2;rw[ha x (by simp[h1])]
   ·rename_i s x t u h1 h2;rw[ha s (by simp[h1]),ha x (by simp[h1])]
   ·rename_i x t h1 h2;rw[ha x (by simp[h1])]
   ·rename_i x y t u h1 h2;rw[ha x (by simp[h1]),ha y (by simp[h1])]
   ·rename_i l x y h1;rw[ha x (by simp[h1]),ha y (by simp[h1])]
   ·rename_i l x y h1;rw[ha x (by simp[h1]),ha y (by simp[h1])]
   ·rfl
 all_goals first|rfl|(simp at h;simp[h])
theorem wA {tmps:List AV} {dst:Option Nat} {v:AV} {t:Nat} (h:dst≠some t):(qS tmps dst v).getD t (.tup [])=tmps.getD t (.tup []):=by
 cases dst with
 |none=>rfl
 |some d=>
  have: ¬d=t:=fun e=>h (by rw[e])
  simp[qS,List.getD_eq_getElem?_getD,List.getElem?_set,this]
theorem eH {sets:List (Nat×aU)} {h:List aU} {id:Nat} (hn:id∉sets.map (·.1)):Heap.get (cY h sets) id=Heap.get h id:=
 dK sets h id fun s hs=>hn (List.mem_map.2 ⟨(id,s),hs,rfl⟩)
theorem mZ {α β:Type} {f g:α→List β}: ∀ {l:List α},(∀x∈l,f x=g x)→l.flatMap f=l.flatMap g
 |[],_=>rfl
 |x::l,h=>by
  simp only[List.flatMap_cons]
  rw[h x List.mem_cons_self,mZ fun y hy=>h y (List.mem_cons_of_mem _ hy)]
theorem nR {tt:Tab} {ct:CT} {ops:Array Oper} {s s':St} {o:Oper} {base:Nat} {dec:Option Bool} {fp:List Nat} {e:Eff} (hs:i8 tt ct ops s o base dec=some (fp,e))
  (ht: ∀t∈o.looksAt ops,s'.tmps.getD t (.tup [])=s.tmps.getD t (.tup [])) (hh: ∀id∈fp,Heap.get s'.heap id=Heap.get s.heap id):i8 tt ct ops s' o base dec=some (fp,e):=by
 have hfp:fp=fpO o.op s.heap ((cS o).map s.ev):=by
  unfold i8 at hs
  dsimp only at hs
  split at hs
  ·obtain⟨e',h1,h2⟩:=Option.map_eq_some_iff.1 hs;injection h2 with h2 h3;exact h2.symm
  ·split at hs
   ·obtain⟨e',h1,h2⟩:=Option.map_eq_some_iff.1 hs;injection h2 with h2 h3;exact h2.symm
   ·cases hs
  ·split at hs
   ·injection hs with hs;injection hs with h1 h2;exact h1.symm
   ·injection hs with hs;injection hs with h1 h2;exact h1.symm
   ·cases hs
  ·cases hs
 have hev: ∀x∈cS o,s'.ev x=s.ev x:=fun x hx=>JG ht fun t e=>by
  subst e
  simp only[Oper.looksAt,List.mem_append,List.mem_filterMap]
  exact .inl ⟨.tmp t,hx,rfl⟩
 have hmap:(cS o).map s'.ev=(cS o).map s.ev:=List.map_congr_left hev
 have hfp':fpO o.op s'.heap ((cS o).map s'.ev)=fp:=by
  rw[hmap,hfp]
  rw[hfp]at hh
  generalize o.op=op at hh
  have gen:(∀id∈JK (sG op) s.heap ((cS o).map s.ev),Heap.get s'.heap id=Heap.get s.heap id)→JK (sG op) s'.heap ((cS o).map s.ev)=JK (sG op) s.heap ((cS o).map s.ev):=fun hh=>by
   unfold JK at hh⊢
   dsimp only at hh⊢
   congr 1
   cases hd:sG op with
   |false=>rfl
   |true=>
   refine mZ fun id hid=> ?_
   rw[hh id (List.mem_append_left _ hid)]
  cases op<;>first|rfl|exact gen hh
 have honly:only s'.heap fp=only s.heap fp:=by
  funext id
  unfold only
  cases hf:fp.elem id with
  |false=>rfl
  |true=>exact hh id (by simpa using hf)
 have haop:aop tt ct (only s'.heap fp) base s'.ev o.op=aop tt ct (only s.heap fp) base s.ev o.op:=by
  rw[honly]
  exact EY tt ct _ base o.op fun x hx=>hev x (by simpa [cS]using hx)
 have hg: ∀j want,o.guard=some (j,want)→uX ops s'.tmps j=uX ops s.tmps j:=fun j want hgd=>by
  unfold uX
  split
  ·rename_i d hd
   refine ht d ?_
   simp only[Oper.looksAt,List.mem_append,hgd]
   exact .inr (by rw[hd];simp)
  ·rfl
 unfold i8 at hs⊢
 dsimp only at hs⊢
 rw[hfp',haop]
 rw[←hfp]at hs
 cases hgd:o.guard with
 |none=>rw[hgd]at hs;cases dec<;>exact hs
 |some jw=>
  obtain⟨j,want⟩:=jw
  rw[hgd]at hs
  have e1:=hg j want hgd
  cases dec with
  |none=>exact hs
  |some b=>cases b<;>(dsimp only at hs⊢;rw[e1];exact hs)
theorem lQ: ∀(a:List (Nat×aU)) (h:List aU) (i:Nat) (s:aU),i∉a.map (·.1)→cY (h.set i s) a=(cY h a).set i s
 |[],h,i,s,_=>rfl
 |(j,t)::a,h,i,s,hn=>by
  simp only[List.map_cons,List.mem_cons,not_or]at hn
  simp only[cY]
  rw[List.set_comm _ _ hn.1,lQ a _ i s hn.2]
theorem wI: ∀(a b:List (Nat×aU)) (h:List aU),(∀x∈a.map (·.1),x∉b.map (·.1))→cY (cY h a) b=cY (cY h b) a
 |[],b,h,_=>rfl
 |(i,s)::a,b,h,hn=>by
  simp only[cY]
  rw[wI a b (h.set i s) fun x hx=>hn x (by simp only[List.map_cons];exact List.mem_cons_of_mem _ hx),lQ b h i s (hn i (by simp))]
theorem FM {tmps:List AV} {x y:Option Nat} (v u:AV) (h: ∀d,x=some d→y≠some d):qS (qS tmps x v) y u=qS (qS tmps y u) x v:=by
 cases x with
 |none=>rfl
 |some d=>
  cases y with
  |none=>rfl
  |some e=>
   have hne:d≠e:=fun he=>h d rfl (by rw[he])
   simp only[qS]
   rw[List.set_comm _ _ hne]
theorem kC {a b:List Nat} (h:EC a b=false): ∀x∈a,x∉b:=by
 intro x hx hb
 have:=List.any_eq_false.1 h x hx
 exact this (by simpa using hb)
theorem D0 {ops:Array Oper} {x y:Rec} (h:pX ops x y=true):
  x.o.apart ops y.o=true∧(∀i∈x.writes,i∉y.fp)∧(∀i∈y.writes,i∉x.fp)∧ ∀i∈x.writes,i∉y.writes:=by
 simp only[pX,Bool.and_eq_true,rpS,Bool.not_eq_true']at h
 obtain⟨⟨⟨h1,h2⟩,h3⟩,h4⟩:=h
 exact⟨h1,kC h2,kC h3,kC h4⟩
theorem mG: ∀ {n b i:Nat},i<n→b+i∈cL n b
 |0,b,i,h=>absurd h (by omega)
 |n+1,b,0,_=>by simp[cL]
 |n+1,b,i+1,h=>by
  have:=mG (n:=n) (b:=b+1) (i:=i) (by omega)
  rw[show b+1+i=b+(i+1)from by omega]at this
  exact List.mem_cons_of_mem _ this
section
variable {tt : Tab} {ct : CT} {ops : Array Oper}
theorem lX.swap {x y:Rec} {rs:List Rec} {s s':St} (hi:pX ops x y=true) (h:lX tt ct ops (x::y::rs) s s'):lX tt ct ops (y::x::rs) s s':=by
 obtain⟨hap,h1,h2,h3⟩:=D0 hi
 obtain⟨a1,a2,a3⟩:=Oper.apart_spec hap
 cases h with
 |cons _ _ _ _ hsx hox hbx h=>
 cases h with
 |cons _ _ _ _ hsy hoy hby h=>
 have wx: ∀i∈x.eff.sets.map (·.1),i∈x.writes:=fun i hi=>List.mem_append_left _ hi
 have wy: ∀i∈y.eff.sets.map (·.1),i∈y.writes:=fun i hi=>List.mem_append_left _ hi
 have bx: ∀k,k<slots x.o.op→x.base+k∈x.writes:=fun k hk=>List.mem_append_right _ (mG hk)
 have b_y: ∀k,k<slots y.o.op→y.base+k∈y.writes:=fun k hk=>List.mem_append_right _ (mG hk)
 have hy0:i8 tt ct ops s y.o y.base y.dec=some (y.fp,y.eff):=by
  refine nR hsy (fun t ht=> ?_) (fun id hid=> ?_)
  ·exact(wA (fun e=>a1 t e ht)).symm
  ·exact(eH (fun hm=>h1 id (wx id hm) hid)).symm
 have hx1:i8 tt ct ops (dI s y.o.dst y.eff) x.o x.base x.dec=some (x.fp,x.eff):=by
  refine nR hsx (fun t ht=> ?_) (fun id hid=> ?_)
  ·exact wA (fun e=>a3 t e ht)
  ·exact eH (fun hm=>h2 id (wy id hm) hid)
 refine .cons y _ s s' hy0 hoy (fun k hk=> ?_) (.cons x rs _ s' hx1 hox (fun k hk=> ?_) ?_)
 ·obtain⟨c1,c2⟩:=hby k hk
  refine⟨?_,by simpa [dI,eI]using c2⟩
  rw[←c1]
  exact(eH (fun hm=>h3 _ (wx _ hm) (b_y k hk))).symm
 ·obtain⟨c1,c2⟩:=hbx k hk
  refine⟨?_,by simpa [dI,eI]using c2⟩
  rw[←c1]
  exact eH (fun hm=>h3 _ (bx k hk) (wy _ hm))
 ·have e:dI (dI s y.o.dst y.eff) x.o.dst x.eff=dI (dI s x.o.dst x.eff) y.o.dst y.eff:=by
   simp only[dI]
   rw[FM _ _ (fun d hd e=>a2 d e hd),wI _ _ _ fun i hi hj=>h3 i (wx i hj) (wy i hi)]
  rw[e];exact h
theorem lX.front {r:Rec}: ∀ {l1 l2:List Rec} {s s':St},(∀x∈l1,pX ops x r=true)→lX tt ct ops (l1++r::l2) s s'→lX tt ct ops (r::(l1++l2)) s s'
 |[],l2,s,s',_,h=>h
 |x::l1,l2,s,s',hi,h=>by
  cases h with
  |cons _ _ _ _ hs ho hb h=>
   exact lX.swap (hi x List.mem_cons_self) (.cons x _ s s' hs ho hb (lX.front (fun y hy=>hi y (List.mem_cons_of_mem _ hy)) h))
end
theorem tH (ms:List Nat) (x:Nat): ∀(l:List Edge) (s:Nat),(l.foldl (fun s e=>bif Region.binds .any e then s|||(2^e.on|||ms.getD e.on 0)else s) s).testBit x=true→
  s.testBit x=true∨ ∃e∈l,Region.binds .any e=true∧(x=e.on∨(ms.getD e.on 0).testBit x=true)
 |[],s,h=> .inl h
 |e::l,s,h=>by
  simp only[List.foldl_cons]at h
  rcases tH ms x l _ h with h|⟨e',h1,h2,h3⟩
  ·cases hb:Region.binds .any e with
   |false=>rw[hb]at h;exact .inl h
   |true=>
    rw[hb]at h
    simp only[cond_true,Nat.testBit_or,Bool.or_eq_true,Nat.testBit_two_pow,decide_eq_true_eq]at h
    rcases h with h|h|h
    ·exact .inl h
    ·exact .inr ⟨e,List.mem_cons_self,hb,.inl h.symm⟩
    ·exact .inr ⟨e,List.mem_cons_self,hb,.inr h⟩
  ·exact .inr ⟨e',List.mem_cons_of_mem _ h1,h2,h3⟩
theorem q6 (ms:List Nat): ∀ {l:List Oper} {i:Nat},tJ ms l i=true→ ∀(k:Nat) (o:Oper),l[k]? =some o→
  (∀x,(ms.getD (i+k) 0).testBit x=true→ ∃e∈o.after.toList,Region.binds .any e=true∧(x=e.on∨(ms.getD e.on 0).testBit x=true))∧ ∀e∈o.after.toList,Region.binds .any e=true→e.on<i+k
 |[],i,_,k,o,h=>by simp at h
 |x::l,i,hb,k,o,h=>by
  simp only[tJ,Bool.and_eq_true,rpS,beq_iff_eq,List.all_eq_true,Bool.or_eq_true,Bool.not_eq_true']at hb
  obtain⟨⟨h1,h2⟩,h3⟩:=hb
  cases k with
  |zero=>
   simp at h;subst h
   refine⟨fun y hy=> ?_,fun e he hbd=> ?_⟩
   ·rw[Nat.add_zero,h1]at hy
    rcases tH ms y _ _ hy with h|h
    ·simp at h
    ·exact h
   ·rcases h2 e he with h|h
    ·rw[hbd]at h;cases h
    ·simpa [Nat.blt_eq]using h
  |succ k=>
   have:=q6 ms h3 k o (by simpa using h)
   rwa[show i+1+k=i+(k+1)from by omega]at this
theorem lK {ops:Array Oper} {ms:List Nat}: ∀ {rs:List Rec},n9 ops ms rs=true→rs.Pairwise fun x y=>(ms.getD y.i 0).testBit x.i=true∨pX ops x y=true
 |[],_=> .nil
 |x::r,h=>by
  simp only[n9,Bool.and_eq_true,rpS,List.all_eq_true,Bool.or_eq_true]at h
  exact .cons (fun y hy=>h.1 y hy) (lK h.2)
end
section
variable {X : Nat → Prop}
theorem mD {md:Region.Mode} {ops:Array Oper} {listed:Array Bool} {i:Nat}:i∈Region.ready md ops listed↔listed.getD i true=false∧ ∃o,ops[i]? =some o∧ ∀e∈o.after,Region.binds md e=true→listed.getD e.on false=true:=by
 unfold Region.ready
 simp only[List.mem_filter,List.mem_range,Bool.and_eq_true,rpS,Bool.not_eq_true']
 constructor
 ·rintro⟨h1,h2,h3⟩
  refine⟨h2,ops[i],by simp[h1],fun e he hb=> ?_⟩
  simp[h1]at h3
  obtain⟨j,hj,rfl⟩:=Array.getElem_of_mem he
  have:=h3 j hj
  rcases this with h|h
  ·rw[hb]at h;cases h
  ·simpa using h
 ·rintro⟨h1,o,h2,h3⟩
  have hlt:i<ops.size:=(Array.getElem?_eq_some_iff.1 h2).1
  refine⟨hlt,h1, ?_⟩
  simp only[h2,Option.map_some,Option.getD_some,Array.all_eq_true]
  intro j hj
  cases hb:Region.binds md o.after[j]with
  |false=>rfl
  |true=>simpa using h3 _ (Array.getElem_mem hj) hb
theorem oP {listed:Array Bool} {i j:Nat} (h:i<listed.size) (d:Bool):(listed.setIfInBounds i true).getD j d=if j=i then true else listed.getD j d:=by
 by_cases e:j=i
 ·subst e;simp[Array.getD,h]
 ·have: ¬i=j:=fun x=>e x.symm
  simp[Array.getD_eq_getD_getElem?,Array.getElem?_setIfInBounds_ne this,e]
theorem sW {listed:Array Bool} {i:Nat} (h:i<listed.size) (d d':Bool):listed.getD i d=listed.getD i d':=by
 simp[Array.getD,h]
section
variable {P : Program} {tt : Tab} (hT : iC P tt) {ct : CT} (hct : bK P ct) {w0 : World} {ρ0 : Rho} {ops : Array Oper} {ro : Option Nat} {n : Nat}
include hT hct in
theorem EX {Q:Exit→Act→World→Prop} {s':St} (hQ: ∀a w ρ,Rel X w0 ρ0 s' ρ a w→Q .normal a w) {ms:List Nat} (hms:tJ ms ops.toList 0=true):
  ∀ {fuel:Nat} {rs:List Rec} {s:St} {ρ:Rho} {a:Act} {w:World} {listed:Array Bool},rs.length=fuel→Rel X w0 ρ0 s ρ a w→lX tt ct ops rs s s'→
  (∀r∈rs,ops[r.i]? =some r.o∧listed.getD r.i true=false)→(∀j,j<ops.size→listed.getD j true=false→ ∃r∈rs,r.i=j)→
  (∀j,j<ops.size→listed.getD j true=true→ ∀x,(ms.getD j 0).testBit x=true→listed.getD x true=true)→
  rs.Pairwise (fun x y=>x.i<y.i)→rs.Pairwise (fun x y=>(ms.getD y.i 0).testBit x.i=true∨pX ops x y=true)→listed.size=ops.size→
  wpAnyIn (FW ro) n P .any ops Q fuel listed a w:=by
 have spec: ∀i o,ops[i]? =some o→(∀x,(ms.getD i 0).testBit x=true→ ∃e∈o.after.toList,Region.binds .any e=true∧(x=e.on∨(ms.getD e.on 0).testBit x=true))∧
   ∀e∈o.after.toList,Region.binds .any e=true→e.on<i:=by
  intro i o h
  have:=q6 ms hms i o (by simpa using h)
  rwa[Nat.zero_add]at this
 intro fuel
 induction fuel with
 |zero=>
  intro rs s ρ a w listed hlen r hr hi hl hc hs hp hsz
  have:rs=[]:=List.eq_nil_of_length_eq_zero hlen
  subst this
  cases hr
  refine⟨?_,hQ _ _ _ r⟩
  apply List.eq_nil_iff_forall_not_mem.2
  intro j hj
  obtain⟨h1,o,h2,_⟩:=mD.1 hj
  obtain⟨r,hr,_⟩:=hl j (Array.getElem?_eq_some_iff.1 h2).1 h1
  cases hr
 |succ fuel ih=>
  intro rs s ρ a w listed hlen r hr hi hl hc hs hp hsz
  refine⟨fun hnil=> ?_,fun i hiR=> ?_⟩
  ·
   cases rs with
   |nil=>simp at hlen
   |cons x rs=>
    exfalso
    obtain⟨hx1,hx2⟩:=hi x List.mem_cons_self
    have:x.i∈Region.ready .any ops listed:=by
     refine mD.2 ⟨hx2,x.o,hx1,fun e he hb=> ?_⟩
     have hlt:=(spec x.i x.o hx1).2 e (by simpa using he) hb
     have hxs:x.i<ops.size:=(Array.getElem?_eq_some_iff.1 hx1).1
     cases hg:listed.getD e.on true with
     |true=>rw[sW (by omega) false true];exact hg
     |false=>
      obtain⟨y,hy,he'⟩:=hl e.on (by omega) hg
      rcases List.mem_cons.1 hy with h|h
      ·subst h;omega
      ·have:=(List.pairwise_cons.1 hs).1 y h;omega
    rw[hnil]at this;cases this
  ·obtain⟨h1,o,h2,h3⟩:=mD.1 hiR
   have hisz:i<ops.size:=(Array.getElem?_eq_some_iff.1 h2).1
   obtain⟨y,hy,hyi⟩:=hl i hisz h1
   subst hyi
   obtain⟨l1,l2,hsplit⟩:=List.append_of_mem hy
   subst hsplit
   have ho:o=y.o:=by have:=(hi y hy).1;rw[h2]at this;injection this
   subst ho
   have closed: ∀x,(ms.getD y.i 0).testBit x=true→listed.getD x true=true:=by
    intro x hx
    obtain⟨e,he,hb,hxe⟩:=(spec _ _ h2).1 x hx
    have hle:=h3 e (by simpa using he) hb
    have heon:e.on<ops.size:=by have:=(spec _ _ h2).2 e he hb;omega
    rw[sW (by omega) false true]at hle
    rcases hxe with rfl|hxe
    ·exact hle
    ·exact hc e.on heon hle x hxe
   have hind: ∀x∈l1,pX ops x y=true:=by
    intro x hx
    have:=(List.pairwise_append.1 hp).2.2 x hx y List.mem_cons_self
    rcases this with h|h
    ·have h4:=closed _ h
     have h5:=(hi x (List.mem_append_left _ hx)).2
     rw[h4]at h5;cases h5
    ·exact h
   have hfront:=lX.front hind hr
   cases hfront with
   |cons _ _ _ _ hs1 ho1 hb1 hrest=>
    refine uC hT hct r h2 hs1 ho1 hb1 fun a' w' ρ' r'=> ?_
    have hne: ∀x∈l1++l2,x.i≠y.i:=by
     intro x hx
     have hp1:=List.pairwise_append.1 hs
     rcases List.mem_append.1 hx with h|h
     ·have:=hp1.2.2 x h y List.mem_cons_self;omega
     ·have:=(List.pairwise_cons.1 hp1.2.1).1 x h;omega
    have hsub:(l1++l2).Sublist (l1++y::l2):=List.Sublist.append (List.Sublist.refl _) (List.sublist_cons_self _ _)
    refine ih (rs:=l1++l2) (by simp at hlen⊢;omega) r' hrest (fun x hx=> ?_) (fun j hj hjl=> ?_) (fun j hj hjl x hx=> ?_) (hs.sublist hsub) (hp.sublist hsub) (by simpa using hsz)
    ·have hm:x∈l1++y::l2:=hsub.subset hx
     refine⟨(hi x hm).1, ?_⟩
     rw[oP (by omega),if_neg (hne x hx)];exact(hi x hm).2
    ·rw[oP (by omega)]at hjl
     split at hjl
     ·cases hjl
     ·rename_i hji
      obtain⟨z,hz,hzi⟩:=hl j hj hjl
      refine⟨z, ?_,hzi⟩
      rcases List.mem_append.1 hz with h|h
      ·exact List.mem_append_left _ h
      ·rcases List.mem_cons.1 h with h|h
       ·subst h;exact absurd hzi.symm hji
       ·exact List.mem_append_right _ h
    ·rw[oP (by omega)]at hjl⊢
     split
     ·rfl
     ·split at hjl
      ·rename_i hjy;subst hjy;exact closed x hx
      ·exact hc j hj hjl x hx
theorem tZ: ∀ {l:List Oper} {i base:Nat} {s s':St} {kn:yX} {p p':gC} {rs:List Rec} {ob:List Bool},pA tt ct ops l i base s kn p=some (rs,s',p',ob)→
  (∀b∈ob,b=true)→(∀k,base≤k→k<base+qI l→Heap.get s.heap k=.unborn)→base+qI l≤s.heap.length→
  lX tt ct ops rs s s'∧rs.length=l.length∧ ∀k r,rs[k]? =some r→r.i=i+k∧l[k]? =some r.o
 |[],i,base,s,s',kn,p,p',rs,ob,h,ho,hf,hl=>by
  simp only[pA,Option.some.injEq,Prod.mk.injEq]at h
  obtain⟨rfl,rfl,rfl,rfl⟩:=h
  exact⟨.nil _,rfl,fun k r hk=>by simp at hk⟩
 |o::l,i,base,s,s',kn,p,p',rs,ob,h,ho,hf,hl=>by
  simp only[pA]at h
  split at h
  ·cases h
  ·rename_i dec kn' p1 hdec
   split at h
   ·cases h
   ·rename_i fp e hst
    cases hset:(e.sets.all fun x=>Nat.blt x.1 (base+slots o.op))with
    |false=>rw[hset]at h;cases h
    |true=>
    rw[hset]at h
    simp only[Bool.not_true,cond_false]at h
    split at h
    ·cases h
    ·rename_i rs' s2 p2 b hrest
     simp only[Option.some.injEq,Prod.mk.injEq]at h
     obtain⟨rfl,rfl,rfl,rfl⟩:=h
     simp only[qI]at hf hl
     have hlt: ∀x∈e.sets,x.1<base+slots o.op:=fun x hx=>by
      have:=List.all_eq_true.1 hset x hx
      simpa [Nat.blt_eq]using this
     obtain⟨g1,g2,g3⟩:=tZ hrest (fun b hb=>ho b (List.mem_append_right _ hb)) (fun k hk1 hk2=>by
      simp only[dI]
      rw[eH (fun hm=>by
       obtain⟨x,hx,rfl⟩:=List.mem_map.1 hm
       have:=hlt x hx;omega)]
      exact hf k (by omega) (by omega)) (by simp only[dI,eI];omega)
     refine⟨.cons _ _ _ _ hst (fun b hb=>ho b (List.mem_append_left _ hb)) (fun k hk=>by dsimp only at hk⊢;exact⟨hf _ (by omega) (by omega),by omega⟩) g1,by simp[g2],fun k r hk=> ?_⟩
     cases k with
     |zero=>simp at hk;subst hk;exact⟨rfl,by simp⟩
     |succ k=>
      obtain⟨a1,a2⟩:=g3 k r (by simpa using hk)
      exact⟨by omega,by simpa using a2⟩
def uH:Ex→Exit
 |.normal=> .normal
 |.exit id=> .exit id
 |.ret=> .ret
def s4 (X:Nat→Prop) (w0:World) (ρ0:Rho) (Q:Ex→St→Prop):Exit→Act→World→Prop:=fun e a w=> ∃x s ρ,e=uH x∧Q x s∧Rel X w0 ρ0 s ρ a w
def aN (ro:Option Nat) (P:Program) (m:Nat) (c:Code) (s:St) (Q:Ex→St→Prop):Prop:=
 ∀ ⦃X:Nat→Prop⦄ ⦃w0:World⦄ ⦃ρ0 ρ:Rho⦄ ⦃a:Act⦄ ⦃w:World⦄,(∀k,m≤k→ρ0 k=.unborn)→Rel X w0 ρ0 s ρ a w→ ∀n,c.wpIn (FW ro) n P (s4 X w0 ρ0 Q) a w
theorem s4.mono {w0:World} {ρ0:Rho} {Q Q':Ex→St→Prop} (h: ∀e s,Q e s→Q' e s): ∀e a w,s4 X w0 ρ0 Q e a w→s4 X w0 ρ0 Q' e a w:=
 fun e a w ⟨x,s,ρ,h1,h2,h3⟩=>⟨x,s,ρ,h1,h _ _ h2,h3⟩
theorem aN.mono {m:Nat} {c:Code} {s:St} {Q Q':Ex→St→Prop} (g:aN ro P m c s Q) (h: ∀e s,Q e s→Q' e s):aN ro P m c s Q':=
 fun _ _ _ _ _ _ h0 r n=>wpIn_mono (g h0 r n) (s4.mono h)
def f8 (m:Nat) (s s':St):Prop:= ∀ ⦃X:Nat→Prop⦄ ⦃w0:World⦄ ⦃ρ0 ρ:Rho⦄ ⦃a:Act⦄ ⦃w:World⦄,(∀k,m≤k→ρ0 k=.unborn)→Rel X w0 ρ0 s ρ a w→ ∃ρ',Rel X w0 ρ0 s' ρ' a w
theorem f8.good {m:Nat} {c:Code} {s s':St} {Q:Ex→St→Prop} (h:f8 m s s') (g:aN ro P m c s' Q):aN ro P m c s Q:=fun _ _ _ _ _ _ h0 r=>by
 obtain⟨ρ',r'⟩:=h h0 r
 exact g h0 r'
include hT hct in
theorem y9 (bF:P.follows .mixedOrders=true) {m id:Nat} {draw:Bool} {s s':St} {p p':gC} {rs:List Rec} {ob:List Bool}
  (h:pA tt ct ops ops.toList 0 s.heap.length {s with heap:=s.heap++List.replicate (qI ops.toList) .unborn} [] p=some (rs,s',p',ob)) (ho: ∀b∈ob,b=true)
  (hd:(!draw||rE ops rs)=true):aN ro P m (.region id ops draw) s (fun e t=>e=.normal∧t=s'):=by
 intro X w0 ρ0 ρ a w h0 r n
 have r1:Rel X w0 ρ0 {s with heap:=s.heap++List.replicate (qI ops.toList) .unborn} ρ a w:=⟨r.size,r.tmps,r.mem.reserve _,r.defers,r.mono,r.ids⟩
 obtain⟨g1,g2,g3⟩:=tZ h ho (fun k hk1 hk2=>by
  unfold Heap.get
  rw[List.getD_eq_getElem?_getD,List.getElem?_append,if_neg (by omega),List.getElem?_replicate]
  split<;>rfl) (by simp)
 have hidx:rs.map (·.i)=List.range ops.size:=by
  apply List.ext_getElem?
  intro k
  rw[List.getElem?_map]
  by_cases hk:k<rs.length
  ·rw[List.getElem?_eq_getElem hk]
   have:=(g3 k _ (List.getElem?_eq_getElem hk)).1
   simp only[Option.map_some,this,Nat.zero_add]
   rw[List.getElem?_range (by rw[g2]at hk;simpa using hk)]
  ·rw[List.getElem?_eq_none (Nat.le_of_not_lt hk),List.getElem?_eq_none (by rw[g2]at hk;simp at hk⊢;omega)]
   rfl
 have hat: ∀r∈rs,ops[r.i]? =some r.o:=by
  intro r hr
  obtain⟨k,hk,rfl⟩:=List.getElem_of_mem hr
  obtain⟨a1,a2⟩:=g3 k _ (List.getElem?_eq_getElem hk)
  rw[a1,Nat.zero_add];simpa using a2
 have hend: ∀a w ρ,Rel X w0 ρ0 s' ρ a w→s4 X w0 ρ0 (fun e t=>e=.normal∧t=s') .normal a w:=fun a w ρ r=>⟨.normal,s',ρ,rfl,⟨rfl,rfl⟩,r⟩
 cases draw with
 |false=>
  refine wpIn_region ?_
  rw[←hidx]
  exact uG hT hct hend r1 g1 hat
 |true=>
  simp only[Bool.not_true,Bool.false_or,rE,Bool.and_eq_true,rpS]at hd
  refine wpIn_region_any bF ?_
  have r2:Rel X w0 ρ0 {s with heap:=s.heap++List.replicate (qI ops.toList) .unborn} ρ a {w with drawn:=w.drawn+1}:=
   ⟨r1.size,fun t ht=>(r1.tmps t ht).mono (bL.draw w ρ _),r1.mem.draw _,r1.defers.keep (fun _ h=>h),r1.mono.trans (bL.draw w ρ _).toB,r1.ids⟩
  have hsorted:rs.Pairwise (fun x y=>x.i<y.i):=by
   rw[List.pairwise_iff_getElem]
   intro i j hi hj hij
   have a1:=(g3 i _ (List.getElem?_eq_getElem hi)).1
   have a2:=(g3 j _ (List.getElem?_eq_getElem hj)).1
   omega
  refine EX hT hct hend hd.1 (by rw[g2];simp) r2 g1 (fun r hr=>⟨hat r hr, ?_⟩) (fun j hj _=> ?_) (fun j hj hl=> ?_) hsorted (lK hd.2) (by simp)
  ·have:=(Array.getElem?_eq_some_iff.1 (hat r hr)).1
   simp[Array.getD,this]
  ·have hj2:j<rs.length:=by rw[g2];simpa using hj
   refine⟨rs[j],List.getElem_mem hj2, ?_⟩
   have:=(g3 j _ (List.getElem?_eq_getElem hj2)).1
   omega
  ·simp[Array.getD,hj]at hl
end
end
section
variable {X : Nat → Prop}
theorem idx?_spec: ∀ {l:List Nat} {id k:Nat},idx? l id=some k→l[k]? =some id
 |[],id,k,h=>by simp[idx?]at h
 |x::r,id,k,h=>by
  simp only[idx?]at h
  split at h
  ·rename_i e;injection h with h;subst h;simp[e]
  ·obtain⟨j,h1,h2⟩:=Option.map_eq_some_iff.1 h
   subst h2;simpa using idx?_spec h1
theorem kZ: ∀ {l:List Nat},cT l=true→ ∀ {i j x:Nat},l[i]? =some x→l[j]? =some x→i=j
 |[],_,i,j,x,h,_=>by simp at h
 |y::r,hn,i,j,x,h1,h2=>by
  simp only[cT,Bool.and_eq_true,rpS,Bool.not_eq_true']at hn
  have hy:y∉r:=fun hm=>by
   have:r.elem y=true:=List.elem_eq_true_of_mem hm
   rw[hn.1]at this;cases this
  cases i with
  |zero=>
   cases j with
   |zero=>rfl
   |succ j=>simp at h1 h2;subst h1;exact absurd (List.mem_of_getElem? h2) hy
  |succ i=>
   cases j with
   |zero=>simp at h1 h2;subst h2;exact absurd (List.mem_of_getElem? h1) hy
   |succ j=>congr 1;exact kZ hn.2 (by simpa using h1) (by simpa using h2)
theorem kF: ∀ {m k:Nat} {l:List Nat},eV m k l=true→ ∀i,i<m→l[i]? =some (k+i)
 |0,k,l,_,i,h=>absurd h (by omega)
 |m+1,k,[],h,i,hi=>by simp[eV]at h
 |m+1,k,x::r,h,i,hi=>by
  simp only[eV,Bool.and_eq_true,rpS,beq_iff_eq]at h
  cases i with
  |zero=>simp[h.1]
  |succ i=>
   have:=kF h.2 i (by omega)
   simp only[List.getElem?_cons_succ,this]
   congr 1;omega
theorem l0 (l:List Nat): ∀(cs:List aF) (i:Nat),(v5 l cs).getD i .any=(cs.getD i .any).ren l
 |[],i=>by simp[v5,aF.ren]
 |x::r,0=>by simp[v5]
 |x::r,i+1=>by simpa [v5]using l0 l r i
theorem dN (l:List Nat): ∀cs:List aF,(v5 l cs).length=cs.length
 |[]=>rfl
 |x::r=>by simp[v5,dN l r]
theorem wC (l:List Nat): ∀(vs:List AV) (i:Nat),(AF l vs).getD i (.tup [])=(vs.getD i (.tup [])).ren l
 |[],i=>by simp[AF,AV.ren]
 |x::r,0=>by simp[AF]
 |x::r,i+1=>by simpa [AF]using wC l r i
theorem kE (l:List Nat): ∀cs:List AV,(AF l cs).length=cs.length
 |[]=>rfl
 |x::r=>by simp[AF,kE l r]
def kQ (l:List Nat) (ρ ρ':Rho):Prop:= ∀id k,idx? l id=some k→ρ' k=ρ id∨ρ' k=.dead
theorem CR0.ren {w:World} {L L':Nat→Prop} (hL: ∀b,L' b→L b) {l:List Nat} {ρ:Rho} {c:aF} {v:Value} (h:CR0 w L ρ c v): ∀ {ρ':Rho},kQ l ρ ρ'→CR0 w L' ρ' (c.ren l) v:=by
 have mb:cX w L w L':=⟨fun _ _ _=>rfl,fun _ _=>rfl,Nat.le_refl _,fun b hb=> .inl (hL b hb)⟩
 induction h with
 |any v h=>exact fun _=> .any v h
 |int k n=>exact fun _=> .int k n
 |bool b=>exact fun _=> .bool b
 |str s=>exact fun _=> .str s
 |nilp=>exact fun _=> .nilp
 |nils=>exact fun _=> .nils
 |nilf=>exact fun _=> .nilf
 |ptrDead id i es j v hd h=>
  intro ρ' hr
  simp only[aF.ren]
  split
  ·rename_i k hk
   refine .ptrDead k i es j v ?_ h
   rcases hr _ _ hk with e|e
   ·rw[e];exact hd
   ·exact e
  ·exact .any v h
 |ptr id i es j b hb=>
  intro ρ' hr
  simp only[aF.ren]
  split
  ·rename_i k hk
   rcases hr _ _ hk with e|e
   ·exact .ptr k i es j b (by rw[e];exact hb)
   ·exact .ptrDead k i es j _ e rfl
  ·exact .any _ rfl
 |slDead id o len es cap v hd h=>
  intro ρ' hr
  simp only[aF.ren]
  split
  ·rename_i k hk
   refine .slDead k o len es none v ?_ h
   rcases hr _ _ hk with e|e
   ·rw[e];exact hd
   ·exact e
  ·exact .any v h
 |sl id o len es cap b c ty n hb hs hn hl hc=>
  intro ρ' hr
  simp only[aF.ren]
  split
  ·rename_i k hk
   rcases hr _ _ hk with e|e
   ·exact .sl k o len es none b c ty n (by rw[e];exact hb) hs hn hl (fun _ h=>by cases h)
   ·exact .slDead k o len es none _ e rfl
  ·exact .any _ rfl
 |slNone id o es cap a h1 hc=>
  intro ρ' hr
  simp only[aF.ren]
  split
  ·rename_i k hk
   rcases hr _ _ hk with e|e
   ·exact .slNone k o es none a (by rw[e];exact h1) (fun _ h=>by cases h)
   ·exact .slNone k o es none a (by rw[e];simp) (fun _ h=>by cases h)
  ·exact .any _ rfl
 |vptr c i es j b base u hl hc hu ih=>exact fun _=> .vptr c i es j b base u (fun h0 hb=>hl h0 (hL b hb)) hc (fun q hq=>(hu q hq).mono mb (.refl _))
 |view nl c len es cap b base k u hl hc hu hz hk hcap hnl ih=>
  exact fun _=> .view nl c len es cap b base k u (fun h0 hb=>hl h0 (hL b hb)) hc (fun q hq=>(hu q hq).mono mb (.refl _)) hz hk hcap hnl
 |viewNone nl c es cap a k hz hcap hnl hk=>exact fun _=> .viewNone nl c es cap a k hz hcap hnl hk
 |fn f caps vs hs h ih=>
  intro ρ' hr
  simp only[aF.ren]
  refine .fn f _ vs (by rw[dN];exact hs) fun i hi=> ?_
  rw[dN]at hi
  rw[l0]
  exact ih i hi hr
theorem orL {L L':Nat→Prop} (h: ∀b,L' b→L b): ∀b,(L' b∨X b)→(L b∨X b):=fun b hb=>hb.imp (h b) id
theorem AVR.ren {w:World} {ρ ρ':Rho} (hL: ∀b,b9 ρ' b→b9 ρ b) {l:List Nat} (hr:kQ l ρ ρ') {x:AV} {v:Value} (h:AVR X w ρ x v):AVR X w ρ' (x.ren l) v:=by
 induction h with
 |any v=>exact .any v
 |c x v h=>exact .c _ _ (CR0.ren (orL hL) h hr)
 |agg cs vs hs h=>
  simp only[AV.ren]
  refine .agg _ _ (by rw[dN];exact hs) fun i hi=> ?_
  rw[dN]at hi;rw[l0]
  exact CR0.ren (orL hL) (h i hi) hr
 |tup cs vs hs h ih=>
  simp only[AV.ren]
  refine .tup _ _ (by rw[kE];exact hs) fun i hi=> ?_
  rw[kE]at hi;rw[wC]
  exact ih i hi
def cB (h:List aU) (l:List Nat) (ρ:Rho):Rho:=fun k=>
 match l[k]? with
 |some id=>(match Heap.get h id with|.live (.recs ..)=> .dead|_=>ρ id)
 |none=> .unborn
theorem g7 {h:List aU} {l:List Nat} {ρ:Rho} {k id:Nat} (hk:l[k]? =some id):cB h l ρ k=ρ id∨cB h l ρ k=.dead:=by
 unfold cB;rw[hk];dsimp only;split
 ·exact .inr rfl
 ·exact .inl rfl
theorem fJ {h:List aU} {l:List Nat} {ρ:Rho} {k b:Nat} (hb:cB h l ρ k=.row b): ∃id,l[k]? =some id∧ρ id=.row b:=by
 cases hk:l[k]? with
 |none=>unfold cB at hb;rw[hk]at hb;cases hb
 |some id=>
  rcases g7 (h:=h) (ρ:=ρ) hk with e|e
  ·exact⟨id,rfl,by rw[←e];exact hb⟩
  ·rw[e]at hb;cases hb
theorem eF (h:List aU) (l:List Nat) (ρ:Rho):kQ l ρ (cB h l ρ):=fun id k hk=>g7 (idx?_spec hk)
theorem dC (h:List aU) (l:List Nat) (ρ:Rho): ∀b,b9 (cB h l ρ) b→b9 ρ b:=fun b ⟨k,hk⟩=>by
 obtain⟨id,_,h2⟩:=fJ hk;exact⟨id,h2⟩
theorem MI (h:List aU) (l:List Nat) (k:Nat):Heap.get (l.map fun id=>(Heap.get h id).ren l) k=(match l[k]? with|some id=>(Heap.get h id).ren l|none=> .unborn):=by
 unfold Heap.get
 rw[List.getD_eq_getElem?_getD,List.getElem?_map]
 cases l[k]? <;>rfl
theorem Mem.slot_ren {w0 w:World} {M:Nat→Prop} {h:List aU} {ρ:Rho} (m:Mem X w0 M h ρ w) {l:List Nat} {Y:Nat→Prop} (hY: ∀b,Y b→b9 ρ b∨X b) (k:Nat):
  eN Y w (cB h l ρ) (Heap.get (l.map fun id=>(Heap.get h id).ren l) k) (cB h l ρ k):=by
 have hLL: ∀b,(b9 (cB h l ρ) b∨Y b)→(b9 ρ b∨X b):=fun b hb=>hb.elim (fun h'=> .inl (dC h l ρ b h')) (hY b)
 rw[MI]
 cases hk:l[k]? with
 |none=>unfold cB;rw[hk];trivial
 |some id=>
  have hs:=m.slot id
  have hr:cB h l ρ k=(match Heap.get h id with|.live (.recs ..)=> .dead|_=>ρ id):=by unfold cB;rw[hk]
  rw[hr]
  dsimp only
  cases hg:Heap.get h id with
  |unborn=>rw[hg]at hs;show eN Y w _ .unborn (ρ id);cases hx:ρ id<;>rw[hx]at hs<;>first|trivial|exact hs.elim
  |dead=>rw[hg]at hs;show eN Y w _ .dead (ρ id);cases hx:ρ id<;>rw[hx]at hs<;>first|trivial|exact hs.elim
  |live c=>
   rw[hg]at hs
   have keep:(∀q,(c.cell q).ids=[])→eN Y w (cB h l ρ) (.live c) (ρ id):=by
    intro hfree
    cases hx:ρ id with
    |unborn=>rw[hx]at hs;exact hs.elim
    |dead=>rw[hx]at hs;exact hs.elim
    |nil=>rw[hx]at hs;exact hs
    |row b=>
     rw[hx]at hs
     obtain⟨cs,ty,e,h1,h2⟩:=hs
     refine⟨cs,ty,e,h1,fun q hq=> ?_⟩
     have mb:cX w (fun b=>b9 ρ b∨X b) w (fun b=>b9 (cB h l ρ) b∨Y b):=⟨fun _ _ _=>rfl,fun _ _=>rfl,Nat.le_refl _,fun b hb=> .inl (hLL b hb)⟩
     exact((h2 q hq).free (hfree q)).mono mb (cA.noIds _)
   cases c with
   |recs e n f=>exact trivial
   |ints k xs=>exact keep fun q=>by simp[Con.cell,aF.ids]
   |bools xs=>exact keep fun q=>by simp[Con.cell,aF.ids]
   |ivs k xss=>exact keep fun q=>by simp[Con.cell,aF.ids]
   |typ τ xs=>exact keep fun q=>eL (c:=.typ τ xs) rfl q
   |cells cs=>
    simp only[aU.ren]
    cases hx:ρ id with
    |unborn=>rw[hx]at hs;exact hs.elim
    |dead=>rw[hx]at hs;exact hs.elim
    |nil=>rw[hx]at hs;simp only[eN,Con.size,dN]at hs⊢;exact hs
    |row b=>
     rw[hx]at hs
     obtain⟨vs,ty,e,h1,h2⟩:=hs
     refine⟨vs,ty,e,by simpa [Con.size,dN]using h1,fun q hq=> ?_⟩
     simp only[Con.size,dN]at hq
     simp only[Con.cell]
     rw[l0]
     exact CR0.ren hLL (h2 q hq) (eF h l ρ)
theorem Mem.ren {w0 w:World} {M:Nat→Prop} {h:List aU} {ρ:Rho} (m:Mem X w0 M h ρ w) {l:List Nat} (hn:cT l=true):Mem X w0 M (l.map fun id=>(Heap.get h id).ren l) (cB h l ρ) w:=by
 refine⟨fun k=>m.slot_ren (fun b hb=> .inr hb) k,fun i j b hi hj=> ?_,fun k b hb=> ?_,m.os,m.tape,m.output,m.size,m.keep,m.foreign⟩
 ·obtain⟨a,a1,a2⟩:=fJ hi
  obtain⟨c,c1,c2⟩:=fJ hj
  have:=m.inj a c b a2 c2
  subst this
  exact kZ hn a1 c1
 ·obtain⟨a,a1,a2⟩:=fJ hb
  exact m.own a b a2
theorem fA (live order:List Nat): ∀(l:List AV) (k:Nat),(tB live order l k).length=l.length
 |[],_=>rfl
 |v::r,k=>by simp[tB,fA live order r]
theorem mB (live order:List Nat): ∀(l:List AV) (k t:Nat),t<l.length→(tB live order l k).getD t (.tup [])=bif live.elem (k+t)then(l.getD t (.tup [])).ren order else .any
 |[],_,t,h=>by simp at h
 |v::r,k,0,_=>by simp[tB]
 |v::r,k,t+1,h=>by
  have:=mB live order r (k+1) t (by simpa using h)
  rw[show k+1+t=k+(t+1)from by omega]at this
  simpa [tB]using this
theorem f8.remap {m:Nat} {s:St} {live order:List Nat} (hn:cT order=true) (hr:eV m 0 order=true):f8 m s (remap live order s):=by
 intro X w0 ρ0 ρ a w h0 r
 refine⟨cB s.heap order ρ,⟨by simp[Am.remap,fA,r.size],fun t ht=> ?_,r.mem.ren hn,r.defers, ?_, ?_⟩⟩
 ·simp only[Am.remap,fA]at ht⊢
  rw[mB _ _ _ _ _ ht]
  cases live.elem (0+t)with
  |false=>exact .any _
  |true=>exact(r.tmps t ht).ren (dC _ _ _) (eF _ _ _)
 ·exact r.mono.trans ⟨fun _ _ _=>rfl,fun _ _=>rfl,Nat.le_refl _,fun b hb=> .inl (dC _ _ _ b hb)⟩
 ·have key: ∀k,ρ0 k≠ .unborn→order[k]? =some k:=fun k hk=>by
   have hlt:k<m:=by
    rcases Nat.lt_or_ge k m with h|h
    ·exact h
    ·exact absurd (h0 k h) hk
   have:=kF hr k hlt
   rwa[Nat.zero_add]at this
  have one: ∀k,ρ0 k≠ .unborn→cB s.heap order ρ k=ρ k∨cB s.heap order ρ k=.dead:=fun k hk=>g7 (key k hk)
  refine⟨fun id h=> ?_,fun id h=> ?_,fun id b h=> ?_⟩
  ·rcases one id (by rw[h];simp)with e|e
   ·rw[e];exact r.ids.dead id h
   ·exact e
  ·rcases one id (by rw[h];simp)with e|e
   ·rw[e];exact r.ids.nil id h
   ·exact .inr e
  ·rcases one id (by rw[h];simp)with e|e
   ·rw[e];exact r.ids.at_ id b h
   ·exact .inr e
theorem eW: ∀(l acc:List Nat),cT acc=true→cT (jF acc l)=true
 |[],acc,h=>h
 |x::r,acc,h=>by
  simp only[jF]
  cases he:acc.elem x with
  |true=>exact eW r acc h
  |false=>
   refine eW r _ ?_
   have hx:x∉acc:=fun hm=>by rw[List.elem_eq_true_of_mem hm]at he;cases he
   have: ∀(a:List Nat),cT a=true→x∉a→cT (a++[x])=true:=by
    intro a
    induction a with
    |nil=>intro _ _;rfl
    |cons y a iha=>
     intro hn hxa
     simp only[List.mem_cons,not_or]at hxa
     simp only[cT,Bool.and_eq_true,rpS,Bool.not_eq_true']at hn
     simp only[List.cons_append,cT,Bool.and_eq_true,rpS,Bool.not_eq_true']
     refine⟨?_,iha hn.2 hxa.2⟩
     cases hc:(a++[x]).elem y with
     |false=>rfl
     |true=>
      have:y∈a++[x]:=by simpa using hc
      rcases List.mem_append.1 this with h|h
      ·rw[List.elem_eq_true_of_mem h]at hn;cases hn.1
      ·simp at h;exact absurd h.symm hxa.1
   exact this acc h hx
theorem eX: ∀(l acc:List Nat) (m k:Nat),eV m k acc=true→eV m k (jF acc l)=true
 |[],acc,m,k,h=>h
 |x::r,acc,m,k,h=>by
  simp only[jF]
  cases he:acc.elem x with
  |true=>exact eX r acc m k h
  |false=>
   refine eX r _ m k ?_
   have: ∀(a:List Nat) (m k:Nat),eV m k a=true→eV m k (a++[x])=true:=by
    intro a
    induction a with
    |nil=>intro m k h;cases m<;>first|rfl|simp[eV]at h
    |cons y a iha=>
     intro m k h
     cases m with
     |zero=>rfl
     |succ m=>
      simp only[List.cons_append,eV,Bool.and_eq_true,rpS]at h⊢
      exact⟨h.1,iha m (k+1) h.2⟩
   exact this acc m k h
theorem j4: ∀(m k:Nat),eV m k (cL m k)=true
 |0,k=>rfl
 |m+1,k=>by simp[cL,eV,j4 m (k+1)]
theorem wB: ∀ {m k x:Nat},x∈cL m k→k≤x
 |0,k,x,h=>by cases h
 |m+1,k,x,h=>by
  rcases List.mem_cons.1 h with h|h
  ·omega
  ·have:=wB h;omega
theorem iZ: ∀(m k:Nat),cT (cL m k)=true
 |0,k=>rfl
 |m+1,k=>by
  simp only[cL,cT,Bool.and_eq_true,rpS,Bool.not_eq_true']
  refine⟨?_,iZ m (k+1)⟩
  cases h:(cL m (k+1)).elem k with
  |false=>rfl
  |true=>
   have:k∈cL m (k+1):=by simpa using h
   have:=wB this;omega
theorem AB (m:Nat) (live:List Nat) (s:St):cT (K0 m live s)=true:=eW _ _ (eW _ _ (iZ _ _))
theorem AC (m:Nat) (live:List Nat) (s:St):eV m 0 (K0 m live s)=true:=eX _ _ _ _ (eX _ _ _ _ (j4 _ _))
theorem f8.fit (m:Nat) (live:List Nat) (s:St):f8 m s (Am.fit m live s):=f8.remap (AB m live s) (AC m live s)
end
section
variable {X : Nat → Prop}
def iU:Code→List (Nat×Code)
 |.block id c=>(id,c)::iU c
 |.seq a b=>iU a++iU b
 |.cond _ a b=>iU a++iU b
 |.loop c=>iU c
 |_=>[]
def aK (ro:Option Nat) (P:Program) (m:Nat) (lc:List (Nat×LC)) (c:Code):Prop:=
 ∀q∈iU c,∀x,sQ lc q.1=some x→aN ro P m (.block q.1 q.2) x.pre fun e s=>e=x.ex∧s=x.post
section
variable {ro : Option Nat} {P : Program} {tt : Tab} (hT : iC P tt) {ct : CT} (hct : bK P ct) (bF : P.follows .mixedOrders = true)
theorem qE {ro:Option Nat} {kf:Nat} {c:Code} {Q Q':Exit→Act→World→Prop} (h: ∀e a w,Q e a w→Q' e a w): ∀ {n:Nat} {a:Act} {w:World},Code.roundsIn (FW ro) kf P c Q n a w→Code.roundsIn (FW ro) kf P c Q' n a w
 |0,_,_,hr=>hr
 |n+1,a,w,hr=>by
  rw[roundsIn_succ]at hr⊢
  refine wpIn_mono hr fun e a w he=> ?_
  cases e with
  |normal=>exact qE h he
  |exit id=>exact h _ _ _ he
  |goto l=>exact h _ _ _ he
  |ret=>exact h _ _ _ he
  |panic c=>exact h _ _ _ he
  |outgrown=>exact h _ _ _ he
theorem gM {w0:World} {ρ0:Rho} {Q:Ex→St→Prop} {K:Act→World→Prop} {Q':Exit→Act→World→Prop} (hn: ∀s ρ a w,Q .normal s→Rel X w0 ρ0 s ρ a w→K a w)
  (he: ∀x s ρ a w,x≠ .normal→Q x s→Rel X w0 ρ0 s ρ a w→Q' (uH x) a w): ∀e a w,s4 X w0 ρ0 Q e a w→Exit.then K Q' e a w:=by
 rintro e a w ⟨x,s,ρ,rfl,h1,h2⟩
 cases x with
 |normal=>exact hn s ρ a w h1 h2
 |exit id=>exact he (.exit id) s ρ a w (by simp) h1 h2
 |ret=>exact he .ret s ρ a w (by simp) h1 h2
include hT hct bF in
theorem k7 {m:Nat} {lc:List (Nat×LC)}: ∀(n:Nat) {c:Code} {s:St} {p:gC} {o:Out},aD tt ct lc m n c s p=some o→(∀b∈o.obl,b=true)→(∀q∈o.eqs,q)→aK ro P m lc c→
  aN ro P m c s (fun e t=>e=o.ex∧t=o.st)∧ ∀body,c=.loop body→ ∀ ⦃X:Nat→Prop⦄ ⦃w0:World⦄ ⦃ρ0 ρ:Rho⦄ ⦃a:Act⦄ ⦃w:World⦄,(∀k,m≤k→ρ0 k=.unborn)→Rel X w0 ρ0 s ρ a w→ ∀kf,Code.roundsIn (FW ro) kf P body (s4 X w0 ρ0 fun e t=>e=o.ex∧t=o.st) n a w:=by
 intro n
 induction n with
 |zero=>intro c s p o h;simp[aD]at h
 |succ n ih=>
  intro c s p o h ho hq hlc
  cases c with
  |skip=>
   simp only[aD,Option.some.injEq]at h;subst h
   exact⟨fun _ _ _ _ _ _ h0 r kf=>wpIn_skip ⟨.normal,s,_,rfl,⟨rfl,rfl⟩,r⟩,fun _ h=>by cases h⟩
  |label l=>
   simp only[aD,Option.some.injEq]at h;subst h
   exact⟨fun _ _ _ _ _ _ h0 r kf=>wpIn_label ⟨.normal,s,_,rfl,⟨rfl,rfl⟩,r⟩,fun _ h=>by cases h⟩
  |ret=>
   simp only[aD,Option.some.injEq]at h;subst h
   exact⟨fun _ _ _ _ _ _ h0 r kf=>wpIn_ret ⟨.ret,s,_,rfl,⟨rfl,rfl⟩,r⟩,fun _ h=>by cases h⟩
  |exit id=>
   simp only[aD,Option.some.injEq]at h;subst h
   exact⟨fun _ _ _ _ _ _ h0 r kf=>wpIn_exit ⟨.exit id,s,_,rfl,⟨rfl,rfl⟩,r⟩,fun _ h=>by cases h⟩
  |region id ops draw=>
   simp only[aD]at h
   split at h
   ·cases h
   ·rename_i rs s' p' b hrun
    cases hd:(!draw||rE ops rs)with
    |false=>rw[hd]at h;cases h
    |true=>
     rw[hd]at h
     simp only[cond_true,Option.some.injEq]at h;subst h
     exact⟨y9 hT hct bF hrun ho hd,fun _ h=>by cases h⟩
  |seq x y=>
   refine⟨?_,fun _ h=>by cases h⟩
   simp only[aD]at h
   have hlx:aK ro P m lc x:=fun q hq=>hlc q (List.mem_append_left _ hq)
   have hly:aK ro P m lc y:=fun q hq=>hlc q (List.mem_append_right _ hq)
   split at h
   ·rename_i s1 p1 o1 q1 h1
    split at h
    ·rename_i e2 s2 p2 o2 q2 h2
     simp only[Option.some.injEq]at h;subst h
     have g1:=(ih h1 (fun b hb=>ho b (List.mem_append_left _ hb)) (fun q hq'=>hq q (List.mem_append_left _ hq')) hlx).1
     have g2:=(ih h2 (fun b hb=>ho b (List.mem_append_right _ hb)) (fun q hq'=>hq q (List.mem_append_right _ hq')) hly).1
     intro X w0 ρ0 ρ a w h0 r kf
     refine wpIn_seq (wpIn_mono (g1 h0 r kf) (gM (fun t ρ a w ht r=> ?_) (fun e t ρ a w hne ht r=> ?_)))
     ·obtain⟨_,rfl⟩:=ht;exact g2 h0 r kf
     ·exact absurd ht.1 hne
    ·cases h
   ·rename_i r1 hne
    cases hr:aD tt ct lc m n x s p with
    |none=>rw[hr]at h;cases h
    |some o1=>
     rw[hr]at h
     simp only[Option.some.injEq]at h;subst h
     have g1:=(ih hr ho hq hlx).1
     intro X w0 ρ0 ρ a w h0 r kf
     have hnn:o1.ex≠ .normal:=fun e=>by
      obtain⟨ex,st,pa,ob,eq⟩:=o1
      dsimp only at e;subst e
      exact hne _ _ _ _ hr
     refine wpIn_seq (wpIn_mono (g1 h0 r kf) (gM (fun t ρ a w ht r=>absurd ht.1.symm hnn) (fun e t ρ a w hne ht r=>⟨e,t,ρ,rfl,ht,r⟩)))
  |cond x a b=>
   refine⟨?_,fun _ h=>by cases h⟩
   simp only[aD]at h
   split at h
   ·cases h
   ·rename_i t p1 hp
    split at h
    ·rename_i v hv
     split at h
     ·rename_i e s1 p2 o1 q1 h1
      simp only[Option.some.injEq]at h;subst h
      have hb:(bif t then v else !v)=true:=ho _ List.mem_cons_self
      have htv:v=t:=by cases t<;>cases v<;>simp at hb⊢
      subst htv
      have hl1:aK ro P m lc (bif v then a else b):=fun q hq=>hlc q (by cases v with
       |false=>exact List.mem_append_right _ hq
       |true=>exact List.mem_append_left _ hq)
      have g1:=(ih h1 (fun b hb=>ho b (List.mem_cons_of_mem _ hb)) hq hl1).1
      intro X w0 ρ0 ρ a w h0 r kf
      have hev:=r.ev x
      rw[hv]at hev
      have hx:=fR hev
      refine wpIn_cond hx ?_
      have:=g1 h0 r kf
      cases v<;>exact this
     ·cases h
    ·cases h
  |block id body=>
   refine⟨?_,fun _ h=>by cases h⟩
   simp only[aD]at h
   split at h
   ·rename_i x hx
    simp only[Option.some.injEq]at h;subst h
    have h3:fit m x.live s=x.pre:=hq _ (by simp)
    have g:=hlc (id,body) List.mem_cons_self x hx
    rw[←h3]at g
    exact(f8.fit m x.live s).good g
   ·have hlb:aK ro P m lc body:=fun q hq=>hlc q (List.mem_cons_of_mem _ hq)
    split at h
    ·rename_i k s1 p1 o1 q1 h1
     simp only[Option.some.injEq]at h;subst h
     have g1:=(ih h1 ho hq hlb).1
     intro X w0 ρ0 ρ a w h0 r kf
     refine wpIn_block (wpIn_mono (g1 h0 r kf) ?_)
     rintro e a w ⟨x,t,ρ,rfl,⟨hx,rfl⟩,r'⟩
     dsimp only at hx;subst hx
     simp only[uH,Exit.inBlock]
     split
     ·exact⟨.normal,t,ρ,rfl,⟨rfl,rfl⟩,r'⟩
     ·exact⟨.exit k,t,ρ,rfl,⟨rfl,rfl⟩,r'⟩
    ·rename_i r1 hne
     have g1:=(ih h ho hq hlb).1
     intro X w0 ρ0 ρ a w h0 r kf
     refine wpIn_block (wpIn_mono (g1 h0 r kf) ?_)
     rintro e a w ⟨x,t,ρ,rfl,⟨hx,rfl⟩,r'⟩
     cases x with
     |normal=>exact⟨.normal,_,ρ,rfl,⟨hx,rfl⟩,r'⟩
     |ret=>exact⟨.ret,_,ρ,rfl,⟨hx,rfl⟩,r'⟩
     |exit k=>
      exfalso
      obtain⟨ex,st,pa,ob,eq⟩:=o
      dsimp only at hx;subst hx
      exact hne _ _ _ _ _ h
  |loop body=>
   simp only[aD]at h
   have hlb:aK ro P m lc body:=fun q hq=>hlc q hq
   have hr: ∀ ⦃X:Nat→Prop⦄ ⦃w0:World⦄ ⦃ρ0 ρ:Rho⦄ ⦃a:Act⦄ ⦃w:World⦄,(∀k,m≤k→ρ0 k=.unborn)→Rel X w0 ρ0 s ρ a w→ ∀kf,Code.roundsIn (FW ro) kf P body (s4 X w0 ρ0 fun e t=>e=o.ex∧t=o.st) (n+1) a w:=by
    split at h
    ·rename_i s1 p1 o1 q1 h1
     split at h
     ·rename_i e2 s2 p2 o2 q2 h2
      simp only[Option.some.injEq]at h;subst h
      have g1:=(ih h1 (fun b hb=>ho b (List.mem_append_left _ hb)) (fun q hq'=>hq q (List.mem_append_left _ hq')) hlb).1
      have g2:=(ih h2 (fun b hb=>ho b (List.mem_append_right _ hb)) (fun q hq'=>hq q (List.mem_append_right _ hq')) hlc).2
      intro X w0 ρ0 ρ a w h0 r kf
      rw[roundsIn_succ]
      refine wpIn_mono (g1 h0 r kf) (gM (fun t ρ a w ht r=> ?_) (fun e t ρ a w hne ht r=>absurd ht.1 hne))
      obtain⟨_,rfl⟩:=ht
      exact g2 body rfl h0 r kf
     ·cases h
    ·rename_i r1 hne
     have g1:=(ih h ho hq hlb).1
     intro X w0 ρ0 ρ a w h0 r kf
     have hnn:o.ex≠ .normal:=fun e=>by
      obtain⟨ex,st,pa,ob,eq⟩:=o
      dsimp only at e;subst e
      exact hne _ _ _ _ h
     rw[roundsIn_succ]
     exact wpIn_mono (g1 h0 r kf) (gM (fun t ρ a w ht r=>absurd ht.1.symm hnn) (fun e t ρ a w hne ht r=>⟨e,t,ρ,rfl,ht,r⟩))
   exact⟨fun _ _ _ _ _ _ h0 r kf=>wpIn_loop_rounds (n+1) (hr h0 r kf),fun b hb=>by cases hb;exact hr⟩
  |scope c=>simp[aD]at h
  |goto l=>simp[aD]at h
  |rangeFunc f ps x y=>simp[aD]at h
  |refuse w=>simp[aD]at h
theorem aN.loop {α:Type} {m:Nat} {body:Code} (I:α→St) (μ:α→Nat) (Q:α→Ex→St→Prop)
  (h: ∀x,aN ro P m body (I x) fun e s=>(e=.normal∧ ∃y,μ y<μ x∧f8 m s (I y)∧ ∀e t,Q y e t→Q x e t)∨(e≠ .normal∧Q x e s)): ∀x,aN ro P m (.loop body) (I x) (Q x):=by
 intro x X w0 ρ0 ρ a w h0 r kf
 have key: ∀n x ρ a w,μ x<n→Rel X w0 ρ0 (I x) ρ a w→Code.roundsIn (FW ro) kf P body (s4 X w0 ρ0 (Q x)) n a w:=by
  intro n
  induction n with
  |zero=>intro x ρ a w hl;omega
  |succ n ih=>
   intro x ρ a w hl r
   rw[roundsIn_succ]
   refine wpIn_mono (h x h0 r kf) (gM (fun t ρ a w ht r=> ?_) (fun e t ρ a w hne ht r=> ?_))
   ·rcases ht with⟨_,y,hy,hw,hq⟩|⟨hne,_⟩
    ·obtain⟨ρ',r'⟩:=hw h0 r
     exact qE (s4.mono hq) (ih y ρ' a w (by omega) r')
    ·exact absurd rfl hne
   ·rcases ht with⟨he,_⟩|⟨_,hq⟩
    ·exact absurd he hne
    ·exact⟨e,t,ρ,rfl,hq,r⟩
 exact wpIn_loop_rounds (μ x+1) (key _ x ρ a w (Nat.lt_succ_self _) r)
theorem aN.block {m id:Nat} {c:Code} {s:St} {Q:Ex→St→Prop} (g:aN ro P m c s fun e t=>(e=.exit id∧Q .normal t)∨(e≠ .exit id∧Q e t)):aN ro P m (.block id c) s Q:=by
 intro X w0 ρ0 ρ a w h0 r kf
 refine wpIn_block (wpIn_mono (g h0 r kf) ?_)
 rintro e a w ⟨x,t,ρ,rfl,hx,r'⟩
 rcases hx with⟨rfl,hq⟩|⟨hne,hq⟩
 ·simp only[uH,Exit.inBlock,if_true]
  exact⟨.normal,t,ρ,rfl,hq,r'⟩
 ·cases x with
  |normal=>exact⟨.normal,t,ρ,rfl,hq,r'⟩
  |ret=>exact⟨.ret,t,ρ,rfl,hq,r'⟩
  |exit k=>
   simp only[uH,Exit.inBlock]
   rw[if_neg (fun e=>hne (by rw[e]))]
   exact⟨.exit k,t,ρ,rfl,hq,r'⟩
theorem aN.weaken {m:Nat} {c:Code} {s:St} {Q Q':Ex→St→Prop} (g:aN ro P m c s Q) (h: ∀e t,Q e t→ ∃t',f8 m t t'∧Q' e t'):aN ro P m c s Q':=fun _ _ _ _ _ _ h0 r kf=>
 wpIn_mono (g h0 r kf) fun _ _ _ ⟨x,t,ρ,h1,h2,h3⟩=>by
  obtain⟨t',hw,hq⟩:=h x t h2
  obtain⟨ρ',r'⟩:=hw h0 h3
  exact⟨x,t',ρ',h1,hq,r'⟩
def oH (id:Nat) (c:Code):List Code:=((iU c).filter fun q=>q.1==id).map (·.2)
def a5 (id:Nat) (c:Code):Code:=
 match oH id c with
 |[.loop b]=>b
 |_=> .skip
def t0 (id:Nat) (c:Code):Bool:=
 match oH id c with
 |[.loop _]=>true
 |_=>false
theorem zX {id:Nat} {c:Code} (h:t0 id c=true): ∀q∈iU c,q.1=id→q.2=.loop (a5 id c):=by
 intro q hq hid
 have hm:q.2∈oH id c:=List.mem_map.2 ⟨q,List.mem_filter.2 ⟨hq,by simp[hid]⟩,rfl⟩
 unfold t0 at h
 split at h
 ·rename_i b hb
  rw[hb]at hm
  have:a5 id c=b:=by unfold a5;rw[hb]
  rw[this];simpa using hm
 ·cases h
theorem aK.nil {ro:Option Nat} {P:Program} {m:Nat} {c:Code}:aK ro P m [] c:=by intro q hq x hx;cases hx
theorem aK.cons {ro:Option Nat} {P:Program} {m id:Nat} {c:Code} {x:LC} {lc:List (Nat×LC)} (hl:t0 id c=true) (g:aN ro P m (.block id (.loop (a5 id c))) x.pre fun e s=>e=x.ex∧s=x.post) (r:aK ro P m lc c):
  aK ro P m ((id,x)::lc) c:=by
 intro q hq y hy
 simp only[sQ]at hy
 split at hy
 ·rename_i e
  injection hy with hy;subst hy
  rw[zX hl q hq e.symm,←e];exact g
 ·exact r q hq y hy
include hT hct bF in
theorem aN.rounds {m id:Nat} {body:Code} {α:Type} (Inv:α→Prop) (I:α→St) (μ:α→Nat) (live liveX:List Nat) (ex:α→Ex) (post:α→St) (lc:α→List (Nat×LC))
  (hlc: ∀x,Inv x→aK ro P m (lc x) body)
  (h: ∀x,Inv x→ ∃n p o,aD tt ct (lc x) m n body (I x) p=some o∧(∀b∈o.obl,b=true)∧(∀q∈o.eqs,q)∧
   ((o.ex=.normal∧ ∃y,Inv y∧μ y<μ x∧fit m live o.st=I y∧ex y=ex x∧post y=post x)∨(o.ex=.exit id∧ex x=.normal∧fit m liveX o.st=post x)∨
    (o.ex≠ .normal∧o.ex≠ .exit id∧ex x=o.ex∧fit m liveX o.st=post x))):
  ∀x,Inv x→aN ro P m (.block id (.loop body)) (I x) fun e t=>e=ex x∧t=post x:=by
 intro x0 hx0
 let Q: {x//Inv x}→Ex→St→Prop:=fun x e t=>e≠ .normal∧(if e=.exit id then ex x.1=.normal else ex x.1=e)∧fit m liveX t=post x.1
 have key:=aN.loop (P:=P) (m:=m) (body:=body) (α:= {x//Inv x}) (fun x=>I x.1) (fun x=>μ x.1) Q (fun x=>by
  obtain⟨n,p,o,he,ho,hq,hc⟩:=h x.1 x.2
  refine((k7 hT hct bF n he ho hq (hlc x.1 x.2)).1).mono fun e t ⟨h1,h2⟩=> ?_
  subst h1 h2
  rcases hc with⟨hn,y,hy,hm,hf,e1,e2⟩|⟨hn,e1,e2⟩|⟨h1,h2,h3,h4⟩
  ·refine .inl ⟨hn,⟨y,hy⟩,hm,by rw[←hf];exact f8.fit m live _,fun e t hq=> ?_⟩
   simp only[Q,e1,e2]at hq⊢;exact hq
  ·refine .inr ⟨by rw[hn];simp,by rw[hn];simp,by rw[hn];simp[e1],e2⟩
  ·exact .inr ⟨h1,h1,by rw[if_neg h2];exact h3,h4⟩) ⟨x0,hx0⟩
 refine(aN.block (Q:=fun e t=>e=ex x0∧fit m liveX t=post x0) (key.mono fun e t hq=> ?_)).weaken fun e t ⟨h1,h2⟩=>⟨post x0,by rw[←h2];exact f8.fit m liveX t,h1,rfl⟩
 obtain⟨h1,h2,h3⟩:=hq
 by_cases e1:e=.exit id
 ·rw[if_pos e1]at h2
  exact .inl ⟨e1,h2.symm,h3⟩
 ·rw[if_neg e1]at h2
  exact .inr ⟨e1,h2.symm,h3⟩
def bE (P:Program) (f:FuncId) (args:List AV) (h:List aU) (res:AV) (h':List aU):Prop:=
 (∃fn,P.funcs[f]? =some fn∧fn.body.isSome=true∧(fn.name== "runtime.NumGoroutine")=false)∧
 ∀ {X:Nat→Prop} {w0:World} {ρ0:Rho},Mem X w0 (b9 ρ0) h ρ0 w0→ ∀(vs:List Value),vs.length=args.length→(∀q,q<args.length→AVR X w0 ρ0 (args.getD q .any) (vs.getD q undef))→
  Calls P f vs.toArray w0 fun e w'=> ∃v ρ',e=.returned v∧cX w0 (b9 ρ0) w' (b9 ρ')∧cA ρ0 ρ'∧Mem X w0 (b9 ρ0) h' ρ' w'∧AVR X w' ρ' res v
def w9:List Value→Value
 |[u]=>u
 |us=> .tuple us.toArray
def nL (a:Act):ResultVar→Sem Value
 |.tmp t=>pure (a.tmps.getD t undef)
 |.cell ad t=>do loadVar t (←asAddr (a.tmps.getD ad undef))
include hT in
theorem lN {w0:World} {ρ0:Rho} {s:St} {ρ:Rho} {a:Act} {w:World} (r:Rel X w0 ρ0 s ρ a w): ∀ {l:List ResultVar} {vs:List AV} {o:List Bool},nN tt s l=some (vs,o)→(∀b∈o,b=true)→
  ∃us:List Value,(l.mapM (nL a)).run P w=.ok us w∧us.length=vs.length∧ ∀i,i<vs.length→AVR X w ρ (vs.getD i (.tup [])) (us.getD i undef)
 |[],vs,o,h,ho=>by
  simp only[nN,Option.some.injEq,Prod.mk.injEq]at h
  obtain⟨rfl,rfl⟩:=h
  exact⟨[],by simp,rfl,fun i hi=>by simp at hi⟩
 |x::l,vs,o,h,ho=>by
  simp only[nN]at h
  split at h
  ·rename_i v o1 vs1 o2 h1 h2
   simp only[Option.some.injEq,Prod.mk.injEq]at h
   obtain⟨rfl,rfl⟩:=h
   obtain⟨us,g1,g2,g3⟩:=lN r h2 (fun b hb=>ho b (List.mem_append_right _ hb))
   have hd: ∃u,(nL a x).run P w=.ok u w∧AVR X w ρ v u:=by
    cases x with
    |tmp t=>
     simp only[D9,Option.some.injEq,Prod.mk.injEq]at h1
     obtain⟨rfl,rfl⟩:=h1
     exact⟨_,rfl,r.ev (.tmp t)⟩
    |cell ad t=>
     simp only[D9]at h1
     obtain⟨e,he,h3⟩:=Option.map_eq_some_iff.1 h1
     injection h3 with h3 h4;subst h3 h4
     have hx:=r.ev (.tmp ad)
     obtain⟨u,q1,q2,q3,ad',q4⟩:=tF hT r.mem (get:=Heap.get s.heap) (fun _ _ h=>h) hx he (fun b hb=>ho b (List.mem_append_left _ hb))
     refine⟨u, ?_,q2⟩
     have q4':a.tmps.getD ad undef=.pointer (some ad'):=q4
     rw[q4]at q1
     simpa [nL,q4',asAddr,Instr.loadAt,Instr.sureAddr]using q1
   obtain⟨u,d1,d2⟩:=hd
   refine⟨u::us, ?_,by simp[g2],fun i hi=> ?_⟩
   ·simp only[List.mapM_cons,Sem.run_bind,d1,Result.andThen_ok,g1,Sem.run_pure]
   ·cases i with
    |zero=>simpa using d2
    |succ i=>simpa using g3 i (by simpa using hi)
  ·cases h
theorem DB (fn:Func) (a:Act):results fn a.tmps=(do let vs←fn.results.mapM (nL a);pure (if h:vs.size=1 then vs[0]else .tuple vs)):=by
 unfold results
 congr 1
theorem kR: ∀ {l:List Bool},HY l=true→ ∀b∈l,b=true
 |[],_,b,h=>by cases h
 |x::r,h,b,hb=>by
  simp only[HY,Bool.and_eq_true,rpS]at h
  rcases List.mem_cons.1 hb with e|e
  ·subst e;exact h.1
  ·exact kR h.2 b e
theorem Rel.leave {F:Fence} {n:Nat} {P:Program} {fn:Func} {R:Ending→World→Prop} {w0:World} {ρ0:Rho} {s:St} {ρ:Rho} {tmps:Array Value}: ∀ {l:List Deferred} {w:World},Rel X w0 ρ0 s ρ {tmps,defers:=l} w→
  (∀w',Rel X w0 ρ0 s ρ {tmps,defers:=[]} w'→LeavesIn F n P fn tmps R [] .returning w')→LeavesInM F n P fn tmps R l .returning w
 |[],w,r,h=>h w r
 |d::l,w,r,h=>by
  obtain⟨Ds,h1,h2,h3⟩:=r.defers
  cases Ds with
  |nil=>cases h2
  |cons D Ds=>
   obtain⟨hn,h1⟩:=List.nodup_cons.1 h1
   obtain⟨hD,hk⟩:=h3 D List.mem_cons_self
   simp only[List.map_cons,List.cons.injEq]at h2
   obtain⟨rfl,h2⟩:=h2
   refine⟨by simp,.inl ⟨_,_,rfl,run_takeDeferred hk,Rel.leave (w:=w.putObj D (.deferred none)) ⟨r.size,fun t ht=>AVR.shut hk (r.tmps t ht),r.mem.shut hk hD,⟨Ds,h1,h2,fun D' hD'=>⟨(h3 D' (List.mem_cons_of_mem _ hD')).1, ?_⟩⟩,⟨fun b hb hl=> ?_,fun b hb=> ?_, ?_,r.mono.fresh⟩,r.ids⟩ h⟩⟩
   ·rw[World.putObj_heap_other (show D'≠D from fun e=>hn (by rw[←e];exact hD'))];exact(h3 D' (List.mem_cons_of_mem _ hD')).2
   ·rw[World.putObj_heap_other (by omega)];exact r.mono.keep b hb hl
   ·rw[shape?_shut hk];exact r.mono.shape b hb
   ·rw[World.putObj_size];exact r.mono.size
include hT hct bF in
theorem pV {lc:List (Nat×LC)} {fuel:Nat} {f:FuncId} {fn:Func} {args:List AV} {h:List aU} {p:gC} {o:rX} (hf:P.funcs[f]? =some fn) (hnm:(fn.name== "runtime.NumGoroutine")=false)
  (he:aE tt ct lc fuel fn args h p=some o) (ho:o.obl=true) (hq: ∀q∈o.eqs,q) (hlc: ∀c,fn.body=some c→aK none P h.length lc c):bE P f args h o.res o.heap:=by
 unfold aE at he
 split at he
 ·cases he
 ·rename_i c hbody
  refine⟨⟨fn,hf,by simp[hbody],hnm⟩,fun {X w0 ρ0} hmem vs hvl hva=> ?_⟩
  split at he
  ·cases he
  ·rename_i ex s p' o1 q hne hev
   split at he
   ·cases he
   ·rename_i rs o2 hres
    simp only[Option.some.injEq]at he
    subst he
    dsimp only at ho hq⊢
    have hob:=kR ho
    have hgood:=(k7 hT hct bF fuel hev (fun b hb=>hob b (List.mem_append_left _ hb)) hq (hlc c hbody)).1
    have hrel:Rel X w0 ρ0 (EL fn args h) ρ0 {tmps:=vs.toArray++Array.replicate (fn.ntmps-vs.toArray.size) undef,defers:=[]} w0:=by
     refine⟨by simp[EL,hvl],fun t ht=> ?_,hmem,gX.nil _ _,cX.refl _ _,cA.refl _⟩
     simp only[EL]
     by_cases h1:t<args.length
     ·have:=hva t h1
      have h2:t<vs.length:=by omega
      have e1:(args++List.replicate (fn.ntmps-args.length) (AV.tup [])).getD t (.tup [])=args.getD t .any:=by
       simp[List.getD_eq_getElem?_getD,List.getElem?_append,h1]
      have e2:(vs.toArray++Array.replicate (fn.ntmps-vs.toArray.size) undef).getD t undef=vs.getD t undef:=by
       simp[Array.getD_eq_getD_getElem?,Array.getElem?_append,h2]
      rw[e1,e2];exact this
     ·have h2: ¬t<vs.length:=by omega
      have e1:(args++List.replicate (fn.ntmps-args.length) (AV.tup [])).getD t (.tup [])=.tup []:=by
       simp only[List.getD_eq_getElem?_getD,List.getElem?_append,h1,if_false,List.getElem?_replicate]
       split<;>rfl
      have e2:(vs.toArray++Array.replicate (fn.ntmps-vs.toArray.size) undef).getD t undef=undef:=by
       simp only[Array.getD_eq_getD_getElem?,Array.getElem?_append,List.size_toArray,h2,if_false,Array.getElem?_replicate]
       split<;>rfl
      rw[e1,e2];exact oF w0 ρ0
    have h0: ∀k,h.length≤k→ρ0 k=.unborn:=fun k hk=>by
     have:=hmem.slot k
     rw[Heap.get_ge hk]at this
     cases hx:ρ0 k<;>rw[hx]at this<;>first|rfl|exact this.elim
    refine(callsIn_wide (n:=1)).1 (callsIn_of_wp_marks hf hbody trivial (wpIn_mono (hgood h0 hrel 1) ?_))
    rintro e ⟨tm,df⟩ w1 ⟨x,t,ρ,rfl,⟨hx,rfl⟩,r1⟩
    dsimp only at hx r1
    suffices hs: ∀w,Rel X w0 ρ0 t ρ {tmps:=tm,defers:=[]} w→LeavesIn Fence.wide 1 P fn tm (fun e w'=> ∃v ρ',e=.returned v∧cX w0 (b9 ρ0) w' (b9 ρ')∧cA ρ0 ρ'∧Mem X w0 (b9 ρ0) ((dB h.length (lD rs) t.heap).map fun id=>(Heap.get t.heap id).ren (dB h.length (lD rs) t.heap)) ρ' w'∧AVR X w' ρ' ((lD rs).ren (dB h.length (lD rs) t.heap)) v) [] .returning w by
     cases x with
     |normal=>exact Rel.leave r1 hs
     |ret=>exact Rel.leave r1 hs
     |exit k=>exact(hne k hx.symm).elim
    intro w r
    generalize ha:({tmps:=tm,defers:=[]}:Act)=a at r
    obtain rfl:tm=a.tmps:=by rw[←ha]
    obtain⟨us,g1,g2,g3⟩:=lN hT r hres (fun b hb=>hob b (List.mem_append_right _ hb))
    have hrun:(results fn a.tmps).run P w=.ok (w9 us) w:=by
     rw[DB]
     have e1:(fn.results.mapM (nL a)).run P w=.ok us.toArray w:=by
      rw[Array.mapM_eq_mapM_toList]
      simp[g1]
     simp only[Sem.run_bind,e1,Result.andThen_ok,Sem.run_pure]
     congr 1
     cases us with
     |nil=>simp[w9]
     |cons u us=>cases us<;>simp[w9]
    have hres':AVR X w ρ (lD rs) (w9 us):=by
     have tup:AVR X w ρ (.tup rs) (.tuple us.toArray):=.tup _ _ (by simp[g2]) fun i hi=>by
      have:=g3 i hi
      simpa [Array.getD_eq_getD_getElem?,List.getD_eq_getElem?_getD]using this
     cases rs with
     |nil=>cases us with
      |nil=>exact tup
      |cons u us=>simp at g2
     |cons v rs=>
      cases us with
      |nil=>simp at g2
      |cons u us=>
       cases rs with
       |nil=>
        cases us with
        |nil=>have:=g3 0 (by simp);simpa [lD,w9]using this
        |cons u' us=>simp at g2
       |cons v' rs=>
        cases us with
        |nil=>simp at g2
        |cons u' us=>exact tup
    have hn:cT (dB h.length (lD rs) t.heap)=true:=by
     unfold dB
     exact eW _ _ (eW _ _ (iZ _ _))
    have hroots:eV h.length 0 (dB h.length (lD rs) t.heap)=true:=by
     unfold dB
     exact eX _ _ _ _ (eX _ _ _ _ (j4 _ _))
    have hend: ∃v ρ',(Ending.returned (w9 us))=.returned v∧cX w0 (b9 ρ0) w (b9 ρ')∧cA ρ0 ρ'∧
      Mem X w0 (b9 ρ0) ((dB h.length (lD rs) t.heap).map fun id=>(Heap.get t.heap id).ren (dB h.length (lD rs) t.heap)) ρ' w∧
      AVR X w ρ' ((lD rs).ren (dB h.length (lD rs) t.heap)) v:=by
     refine⟨_,cB t.heap (dB h.length (lD rs) t.heap) ρ,rfl, ?_, ?_,r.mem.ren hn,hres'.ren (dC _ _ _) (eF _ _ _)⟩
     ·exact r.mono.trans ⟨fun _ _ _=>rfl,fun _ _=>rfl,Nat.le_refl _,fun b hb=> .inl (dC _ _ _ b hb)⟩
     ·have one: ∀k,ρ0 k≠ .unborn→cB t.heap (dB h.length (lD rs) t.heap) ρ k=ρ k∨cB t.heap (dB h.length (lD rs) t.heap) ρ k=.dead:=fun k hk=>by
       have hlt:k<h.length:=by
        rcases Nat.lt_or_ge k h.length with h'|h'
        ·exact h'
        ·exact absurd (h0 k h') hk
       have:=kF hroots k hlt
       rw[Nat.zero_add]at this
       exact g7 this
      refine⟨fun id h=> ?_,fun id h=> ?_,fun id b h=> ?_⟩
      ·rcases one id (by rw[h];simp)with e|e
       ·rw[e];exact r.ids.dead id h
       ·exact e
      ·rcases one id (by rw[h];simp)with e|e
       ·rw[e];exact r.ids.nil id h
       ·exact .inr e
      ·rcases one id (by rw[h];simp)with e|e
       ·rw[e];exact r.ids.at_ id b h
       ·exact .inr e
    exact⟨_,hrun,hend⟩
  ·cases he
end
end
section
mutual
def aF.back (l:List Nat):aF→aF
 |.ptr id i es j=> .ptr (l.getD id 0) i es j
 |.sl id o len es cap=> .sl (l.getD id 0) o len es cap
 |.fn f caps=> .fn f (lH l caps)
 |x=>x
def lH (l:List Nat):List aF→List aF
 |[]=>[]
 |x::r=>x.back l::lH l r
end
mutual
def AV.back (l:List Nat):AV→AV
 |.any=> .any
 |.c x=> .c (x.back l)
 |.agg cs=> .agg (lH l cs)
 |.tup vs=> .tup (pR l vs)
def pR (l:List Nat):List AV→List AV
 |[]=>[]
 |x::r=>x.back l::pR l r
end
def aU.back (l:List Nat):aU→aU
 |.live (.cells cs)=> .live (.cells (lH l cs))
 |s=>s
mutual
def aF.vfree:aF→Bool
 |.vptr .. =>false
 |.view .. =>false
 |.fn _ l=>pL l
 |_=>true
def pL:List aF→Bool
 |[]=>true
 |x::r=>x.vfree&&pL r
end
mutual
def AV.vfree:AV→Bool
 |.any=>true
 |.c x=>x.vfree
 |.agg cs=>pL cs
 |.tup vs=>uI vs
def uI:List AV→Bool
 |[]=>true
 |x::r=>x.vfree&&uI r
end
def aU.vfree:aU→Bool
 |.live (.ivs ..)=>false
 |.live (.typ ..)=>false
 |.live (.recs ..)=>false
 |.live (.cells cs)=>pL cs
 |_=>true
def aU.plain:aU→Bool
 |.live (.recs ..)=>false
 |_=>true
theorem iS (l:List Nat): ∀(cs:List aF) (i:Nat),(lH l cs).getD i .any=(cs.getD i .any).back l
 |[],i=>by simp[lH,aF.back]
 |x::r,0=>by simp[lH]
 |x::r,i+1=>by simpa [lH]using iS l r i
theorem d9 (l:List Nat): ∀cs:List aF,(lH l cs).length=cs.length
 |[]=>rfl
 |x::r=>by simp[lH,d9 l r]
theorem sB (l:List Nat): ∀(vs:List AV) (i:Nat),(pR l vs).getD i (.tup [])=(vs.getD i (.tup [])).back l
 |[],i=>by simp[pR,AV.back]
 |x::r,0=>by simp[pR]
 |x::r,i+1=>by simpa [pR]using sB l r i
theorem iT (l:List Nat): ∀cs:List AV,(pR l cs).length=cs.length
 |[]=>rfl
 |x::r=>by simp[pR,iT l r]
theorem hU: ∀ {cs:List aF},pL cs=true→ ∀i,(cs.getD i .any).vfree=true
 |[],_,i=>by simp[aF.vfree]
 |x::r,h,i=>by
  simp only[pL,Bool.and_eq_true,rpS]at h
  cases i with
  |zero=>simpa using h.1
  |succ i=>simpa using hU h.2 i
theorem qJ: ∀ {cs:List AV},uI cs=true→ ∀i,(cs.getD i (.tup [])).vfree=true
 |[],_,i=>by simp[AV.vfree,uI]
 |x::r,h,i=>by
  simp only[uI,Bool.and_eq_true,rpS]at h
  cases i with
  |zero=>simpa using h.1
  |succ i=>simpa using qJ h.2 i
def DO (l:List Nat) (ρ1 ρ':Rho):Prop:= ∀k,ρ1 k≠ .unborn→ρ' (l.getD k 0)=ρ1 k
theorem CR0.back {w:World} {L L':Nat→Prop} {l:List Nat} {ρ:Rho} {c:aF} {v:Value} (h:CR0 w L ρ c v):
  ∀ {ρ':Rho},((∀b,L' b→L b)∨c.vfree=true)→DO l ρ ρ'→CR0 w L' ρ' (c.back l) v:=by
 induction h with
 |any v h=>exact fun _ _=> .any v h
 |int k n=>exact fun _ _=> .int k n
 |bool b=>exact fun _ _=> .bool b
 |str s=>exact fun _ _=> .str s
 |nilp=>exact fun _ _=> .nilp
 |nils=>exact fun _ _=> .nils
 |nilf=>exact fun _ _=> .nilf
 |ptrDead id i es j v hd h=>exact fun _ hb=> .ptrDead _ i es j v (by rw[hb id (by rw[hd];simp),hd]) h
 |ptr id i es j b hb=>exact fun _ h=> .ptr _ i es j b (by rw[h id (by rw[hb];simp),hb])
 |slDead id o len es cap v hd h=>exact fun _ hb=> .slDead _ o len es cap v (by rw[hb id (by rw[hd];simp),hd]) h
 |sl id o len es cap b c ty n hb hs hn hl hc=>exact fun _ h=> .sl _ o len es cap b c ty n (by rw[h id (by rw[hb];simp),hb]) hs hn hl hc
 |slNone id o es cap a h1 hc=>exact fun _ h=> .slNone _ o es cap a (by rw[h id h1];exact h1) hc
 |vptr c i es j b base u hl hc hu ih=>
  intro ρ' hL _
  rcases hL with hL|hL
  ·have mb:cX w _ w L':=⟨fun _ _ _=>rfl,fun _ _=>rfl,Nat.le_refl _,fun b hb=> .inl (hL b hb)⟩
   exact .vptr c i es j b base u (fun h0 hb=>hl h0 (hL b hb)) hc (fun q hq=>(hu q hq).mono mb (.refl _))
  ·simp[aF.vfree]at hL
 |view nl c len es cap b base k u hl hc hu hz hk hcap hnl ih=>
  intro ρ' hL _
  rcases hL with hL|hL
  ·have mb:cX w _ w L':=⟨fun _ _ _=>rfl,fun _ _=>rfl,Nat.le_refl _,fun b hb=> .inl (hL b hb)⟩
   exact .view nl c len es cap b base k u (fun h0 hb=>hl h0 (hL b hb)) hc (fun q hq=>(hu q hq).mono mb (.refl _)) hz hk hcap hnl
  ·simp[aF.vfree]at hL
 |viewNone nl c es cap a k hz hcap hnl hk=>exact fun _ _=> .viewNone nl c es cap a k hz hcap hnl hk
 |fn f caps vs hs h ih=>
  intro ρ' hL hr
  simp only[aF.back]
  refine .fn f _ vs (by rw[d9];exact hs) fun i hi=> ?_
  rw[d9]at hi
  rw[iS]
  refine ih i hi (hL.imp id fun h=> ?_) hr
  simp only[aF.vfree]at h
  exact hU h i
theorem AVR.back {X Y:Nat→Prop} {w:World} {ρ ρ':Rho} {l:List Nat} (hr:DO l ρ ρ') {x:AV} {v:Value} (h:AVR X w ρ x v):
  ((∀b,(b9 ρ' b∨Y b)→(b9 ρ b∨X b))∨x.vfree=true)→AVR Y w ρ' (x.back l) v:=by
 induction h with
 |any v=>exact fun _=> .any v
 |c x v h=>exact fun hL=> .c _ _ (CR0.back h (hL.imp id fun h=>by simpa [AV.vfree]using h) hr)
 |agg cs vs hs h=>
  intro hL
  simp only[AV.back]
  refine .agg _ _ (by rw[d9];exact hs) fun i hi=> ?_
  rw[d9]at hi;rw[iS]
  exact CR0.back (h i hi) (hL.imp id fun h=>hU (by simpa [AV.vfree]using h) i) hr
 |tup cs vs hs h ih=>
  intro hL
  simp only[AV.back]
  refine .tup _ _ (by rw[iT];exact hs) fun i hi=> ?_
  rw[iT]at hi;rw[sB]
  exact ih i hi (hL.imp id fun h=>qJ (by simpa [AV.vfree]using h) i)
theorem aF.back_free: ∀ {c:aF} {l:List Nat},c.ids=[]→(∀f cs,c≠ .fn f cs)→c.back l=c:=by
 intro c l h hf
 cases c<;>first|rfl|exact absurd rfl (hf _ _)|simp[aF.ids]at h
theorem KX (τ:Ty) (xs:List τ.car) (q:Nat): ∀f cs,(Con.typ τ xs).cell q≠ .fn f cs:=by
 intro f cs h
 simp only[Con.cell]at h
 have hq:=Nat.mod_lt q τ.es_pos
 revert h hq
 generalize q%τ.es=r
 intro h hq
 cases τ with
 |str=>match r,hq with|0,_=>cases h
 |pk=>match r,hq with
  |0,_=>cases h
  |1,_=>cases h
  |2,_=>cases h
  |3,_=>cases h
  |4,_=>cases h
  |5,_=>cases h
  |6,_=>cases h
  |7,_=>cases h
 |itm=>match r,hq with
  |0,_=>cases h
  |1,_=>cases h
 |evt=>match r,hq with
  |0,_=>cases h
  |1,_=>cases h
  |2,_=>cases h
  |3,_=>cases h
theorem eN.back {X Y:Nat→Prop} {w:World} {ρ ρ':Rho} {l:List Nat} (hr:DO l ρ ρ') {s:aU} {x:Wh} (hp:s.plain=true) (h:eN X w ρ s x)
  (hL:(∀b,(b9 ρ' b∨Y b)→(b9 ρ b∨X b))∨s.vfree=true):eN Y w ρ' (s.back l) x:=by
 cases s with
 |unborn=>cases x<;>exact h
 |dead=>cases x<;>exact h
 |live c=>
  have flat:(∀q,((c.cell q).back l)=c.cell q)→((∀b,(b9 ρ' b∨Y b)→(b9 ρ b∨X b))∨ ∀q,(c.cell q).vfree=true)→eN Y w ρ' (.live c) x:=by
   intro hb hv
   cases x with
   |unborn=>exact h
   |dead=>exact h
   |nil=>exact h
   |row b=>
    obtain⟨cs,ty,e,h1,h2⟩:=h
    refine⟨cs,ty,e,h1,fun q hq=> ?_⟩
    have:=CR0.back (l:=l) (L':=fun b=>b9 ρ' b∨Y b) (h2 q hq) (hv.imp id fun h=>h q) hr
    rwa[hb q]at this
  cases c with
  |recs=>simp[aU.plain]at hp
  |ints k xs=>exact flat (fun q=>by simp[Con.cell,aF.back]) (.inr fun q=>by simp[Con.cell,aF.vfree])
  |bools xs=>exact flat (fun q=>by simp[Con.cell,aF.back]) (.inr fun q=>by simp[Con.cell,aF.vfree])
  |ivs k xss=>exact flat (fun q=>by simp[Con.cell,aF.back]) (hL.imp id fun h=>by simp[aU.vfree]at h)
  |typ τ xs=>exact flat (fun q=>aF.back_free (eL (c:=.typ τ xs) rfl q) (KX τ xs q)) (hL.imp id fun h=>by simp[aU.vfree]at h)
  |cells cs=>
   simp only[aU.back]
   cases x with
   |unborn=>exact h
   |dead=>exact h
   |nil=>simp only[eN,Con.size,d9]at h⊢;exact h
   |row b=>
    obtain⟨vs,ty,e,h1,h2⟩:=h
    refine⟨vs,ty,e,by simpa [Con.size,d9]using h1,fun q hq=> ?_⟩
    simp only[Con.size,d9]at hq
    simp only[Con.cell]
    rw[iS]
    exact CR0.back (h2 q hq) (hL.imp id fun h=>hU (by simpa [aU.vfree]using h) q) hr
def vwC (get:Get):aF→Option (aF×List Bool)
 |.sl id 0 len es cap=>match get id with
  |.live c=>bif c.free then some (.view none c len es cap,[decide (ix len es 0=c.size)])else none
  |_=>none
 |.sl id o len es cap=>match get id with
  |.live c=>bif c.free then(c.sub es (some o) none).map fun c'=>(.view none c' len es cap,[decide (ix (o+len) es 0=c.size)])else none
  |_=>none
 |.ptr id i es j=>match get id with
  |.live c=>bif c.free then some (.vptr c i es j,[])else none
  |_=>none
 |_=>none
def cvC (get:Get) (roots:List Nat) (x:aF):Option (aF×List Bool×Bool):=
 bif x.ids.all roots.elem then some (x.ren roots,[],false)else(vwC get x).map fun(y,o)=>(y,o,true)
def cvL (get:Get) (roots:List Nat):List aF→Option (List aF×List Bool×Bool)
 |[]=>some ([],[],false)
 |x::r=>match cvC get roots x,cvL get roots r with
  |some (y,o,b),some (ys,o',b')=>some (y::ys,o++o',b||b')
  |_,_=>none
def cvA (get:Get) (roots:List Nat):AV→Option (AV×List Bool×Bool)
 |.any=>some (.any,[],false)
 |.c x=>(cvC get roots x).map fun(y,o,b)=>(.c y,o,b)
 |.agg cs=>(cvL get roots cs).map fun(y,o,b)=>(.agg y,o,b)
 |.tup _=>none
def E7 (get:Get) (roots:List Nat):List AV→Option (List AV×List Bool×Bool)
 |[]=>some ([],[],false)
 |x::r=>match cvA get roots x,E7 get roots r with
  |some (y,o,b),some (ys,o',b')=>some (y::ys,o++o',b||b')
  |_,_=>none
def GF (l:List Nat):List Nat→List aU→List (Nat×aU)
 |x::t,s::r=>(x,s.back l)::GF l t r
 |_,_=>[]
abbrev aM:=List AV→List aU→Option (AV×List aU×List Bool)
def D5 (get:Get) (id:Nat):Bool:=gY get id&&(get id).plain
def J5 (F:aM) (roots:List Nat) (args:List AV) (get:Get) (base:Nat):Option Eff:=
 bif cT roots&&roots.all (D5 get)then
  match E7 get roots args with
  |none=>none
  |some (cargs,o,vd)=>
   match F cargs (roots.map fun id=>(get id).ren roots)with
   |none=>none
   |some (res,h1,o')=>
    bif Nat.ble roots.length h1.length&&Nat.ble h1.length (roots.length+8)&&(!vd||(res.vfree&&h1.all aU.vfree))&&h1.all aU.plain then
     some {val:=res.back (roots++cL 8 base),sets:=GF (roots++cL 8 base) (roots++cL 8 base) h1,obl:=o++o'}
    else none
 else none
def aQ (P:Program) (f:FuncId) (F:aM):Prop:= ∀args h res h' o,F args h=some (res,h',o)→(∀b∈o,b=true)→bE P f args h res h'
end
section
theorem idx?_none: ∀ {l:List Nat} {id:Nat},idx? l id=none→id∉l
 |[],id,_=>by simp
 |x::r,id,h=>by
  simp only[idx?]at h
  split at h
  ·cases h
  ·rename_i e
   simp only[Option.map_eq_none_iff]at h
   intro hm
   rcases List.mem_cons.1 hm with hm|hm
   ·exact e hm.symm
   ·exact idx?_none h hm
theorem idx?_some {l:List Nat} {id k:Nat} (hn:cT l=true) (h:l[k]? =some id):idx? l id=some k:=by
 cases hi:idx? l id with
 |none=>exact absurd (List.mem_of_getElem? h) (idx?_none hi)
 |some j=>rw[kZ hn (idx?_spec hi) h]
theorem tQ: ∀(n k i:Nat),(cL n k)[i]? =if i<n then some (k+i)else none
 |0,k,i=>by simp[cL]
 |n+1,k,0=>by simp[cL]
 |n+1,k,i+1=>by
  simp only[cL,List.getElem?_cons_succ,tQ n (k+1) i,Nat.add_lt_add_iff_right]
  split
  ·congr 1;omega
  ·rfl
theorem tR: ∀(n k:Nat),(cL n k).length=n
 |0,_=>rfl
 |n+1,k=>by simp[cL,tR n]
theorem JW {l:List Nat} (h: ∀(i j x:Nat),l[i]? =some x→l[j]? =some x→i=j):cT l=true:=by
 induction l with
 |nil=>rfl
 |cons y r ih=>
  simp only[cT,Bool.and_eq_true,rpS,Bool.not_eq_true']
  refine⟨?_,ih fun i j x hi hj=> ?_⟩
  ·cases hc:r.elem y with
   |false=>rfl
   |true=>
    have:y∈r:=by simpa using hc
    obtain⟨i,hi⟩:=List.getElem?_of_mem this
    have:=h 0 (i+1) y (by simp) (by simpa using hi)
    omega
  ·have:=h (i+1) (j+1) x (by simpa using hi) (by simpa using hj)
   omega
theorem AN (l:List Nat): ∀(t:List Nat) (hs:List aU) (h:List aU) (id:Nat),cT t=true→(∀x∈t,x<h.length)→
  Heap.get (cY h (GF l t hs)) id=match idx? t id with
   |some k=>if k<hs.length then(Heap.get hs k).back l else Heap.get h id
   |none=>Heap.get h id
 |[],hs,h,id,_,_=>by simp[GF,cY,idx?]
 |x::t,[],h,id,_,_=>by
  simp only[GF,cY]
  split<;>simp
 |x::t,s::r,h,id,hn,hl=>by
  have hx:=hl x List.mem_cons_self
  simp only[cT,Bool.and_eq_true,rpS,Bool.not_eq_true']at hn
  have hxt:x∉t:=fun hm=>by rw[List.elem_eq_true_of_mem hm]at hn;cases hn.1
  simp only[GF,cY]
  rw[AN l t r (h.set x (s.back l)) id hn.2 (fun y hy=>by simpa using hl y (List.mem_cons_of_mem _ hy)),Heap.get_set]
  simp only[idx?]
  by_cases e:x=id
  ·subst e
   have:idx? t x=none:=by
    cases hi:idx? t x with
    |none=>rfl
    |some k=>exact absurd (List.mem_of_getElem? (idx?_spec hi)) hxt
   rw[this]
   simp[hx,Heap.get]
  ·rw[if_neg e]
   have e': ¬id=x:=fun h=>e h.symm
   cases hi:idx? t id with
   |none=>simp[e']
   |some k=>
    simp only[Option.map_some,List.length_cons,Nat.add_lt_add_iff_right]
    split
    ·simp[Heap.get]
    ·simp[e']
theorem vM {X Y:Nat→Prop} {w0 w:World} {M:Nat→Prop} {h:List aU} {ρ ρ0:Rho} (m:Mem X w0 M h ρ w) {get:Get} (hg: ∀id c,get id=.live c→Heap.get h id=.live c) {roots:List Nat}
  (hr:kQ roots ρ ρ0) (hb: ∀k b,ρ0 k=.row b→ ∃id,roots[k]? =some id∧ρ id=.row b) {x y:aF} {o:List Bool} {vd:Bool} {v:Value} (hc:cvC get roots x=some (y,o,vd)) (ho: ∀b∈o,b=true)
  (hL: ∀b,(b9 ρ0 b∨Y b)→(b9 ρ b∨X b)) (hv:vd=true→ ∀b, ¬Y b) (hx:CR X w ρ x v):CR Y w ρ0 y v:=by
 unfold cvC at hc
 cases ha:x.ids.all roots.elem with
 |true=>
  rw[ha]at hc
  injection hc with hc;injection hc with h1 h2;subst h1
  exact CR0.ren hL hx hr
 |false=>
  rw[ha]at hc
  obtain⟨⟨y',o'⟩,h1,h2⟩:=Option.map_eq_some_iff.1 hc
  injection h2 with h2 h3;injection h3 with h3 h4;subst h2 h3 h4
  have hY:=hv rfl
  have notL: ∀ {id b},roots.elem id=false→ρ id=.row b→ ¬(b9 ρ0 b∨Y b):=by
   rintro id b hid hrow (⟨k,hk⟩|hyb)
   ·obtain⟨j,j1,j2⟩:=hb k b hk
    have:=m.inj id j b hrow j2
    subst this
    rw[List.elem_eq_true_of_mem (List.mem_of_getElem? j1)]at hid;cases hid
   ·exact hY b hyb
  have mb:cX w (fun b=>b9 ρ b∨X b) w (fun b=>b9 ρ0 b∨Y b):=⟨fun _ _ _=>rfl,fun _ _=>rfl,Nat.le_refl _,fun b hb=> .inl (hL b hb)⟩
  unfold vwC at h1
  split at h1
  ·rename_i id len es cap
   have hid:roots.elem id=false:=by simpa [aF.ids]using ha
   split at h1
   ·rename_i c hs
    cases hfr:c.free with
    |false=>rw[hfr]at h1;cases h1
    |true=>
    rw[hfr]at h1
    injection h1 with h1;injection h1 with e1 e2;subst e1 e2
    have hz:len*es=c.size:=by simpa [dF]using ho _ (List.mem_singleton.2 rfl)
    rcases dQ m (hg _ _ hs) hx with⟨b,k,ty,n,hb',rfl,⟨cs,ty',hrow,hsz,hcs⟩,hsh,hn,hl,hcap⟩|⟨a,rfl,rfl,hcap⟩
    ·rw[Nat.zero_mul]
     refine .view none c len es cap b 0 k (fun q=>cs.getD q undef) (fun _=>notL hid hb') (fun q hq=> ?_) (fun q hq=>((hcs q hq).free (eL hfr q)).mono mb (cA.noIds _)) hz hl hcap (fun _ h=>by cases h)
     have hq':q<cs.size:=by omega
     simp[World.cell?,hrow,Array.getD,hq']
    ·exact .viewNone none c es cap a 0 (by omega) hcap (fun _ h=>by cases h) (fun _=>rfl)
   ·cases h1
  ·rename_i id o len es cap hne
   have hid:roots.elem id=false:=by simpa [aF.ids]using ha
   split at h1
   ·rename_i c hs
    cases hfr:c.free with
    |false=>rw[hfr]at h1;cases h1
    |true=>
    rw[hfr]at h1
    obtain⟨c',g1,g2⟩:=Option.map_eq_some_iff.1 h1
    injection g2 with e1 e2;subst e1 e2
    have hz:(o+len)*es=c.size:=by simpa [dF]using ho _ (List.mem_singleton.2 rfl)
    obtain⟨s1,s2⟩:=pI (len:=o+len) g1 hz (by simp) (by simp)
    simp only[Option.getD_none,Option.getD_some]at s1 s2
    have s1':c'.size=len*es:=by rw[s1];congr 1;omega
    rcases dQ m (hg _ _ hs) hx with⟨b,k,ty,n,hb',rfl,⟨cs,ty',hrow,hsz,hcs⟩,hsh,hn,hl,hcap⟩|⟨a,rfl,rfl,hcap⟩
    ·have hin: ∀q,q<c'.size→o*es+q<c.size:=fun q hq=>by
      rw[s1']at hq;rw[←hz,Nat.add_mul];omega
     refine .view none c' len es cap b (o*es) k (fun q=>cs.getD (o*es+q) undef) (fun _=>notL hid hb') (fun q hq=> ?_) (fun q hq=> ?_) s1'.symm hl hcap (fun _ h=>by cases h)
     ·have hq':o*es+q<cs.size:=by have:=hin q hq;omega
      simp[World.cell?,hrow,Array.getD,hq']
     ·rw[s2 q hq]
      exact((hcs _ (hin q hq)).free (eL hfr _)).mono mb (cA.noIds _)
    ·exact .viewNone none c' es cap a 0 (by rw[s1',Nat.zero_mul]) hcap (fun _ h=>by cases h) (fun _=>rfl)
   ·cases h1
  ·rename_i id i es j
   have hid:roots.elem id=false:=by simpa [aF.ids]using ha
   split at h1
   ·rename_i c hs
    cases hfr:c.free with
    |false=>rw[hfr]at h1;cases h1
    |true=>
    rw[hfr]at h1
    injection h1 with h1;injection h1 with e1 e2;subst e1 e2
    obtain⟨b,hb',rfl,cs,ty,hrow,hsz,hcs⟩:=gI m (hg _ _ hs) hx
    have:=CR0.vptr (w:=w) (L:=fun b=>b9 ρ0 b∨Y b) (ρ:=ρ0) c i es j b 0 (fun q=>cs.getD q undef) (fun _=>notL hid hb') (fun q hq=>by
      have hq':q<cs.size:=by omega
      simp[World.cell?,hrow,Array.getD,hq']) (fun q hq=>((hcs q hq).free (eL hfr q)).mono mb (cA.noIds _))
    simpa using this
   ·cases h1
  ·cases h1
end
section
section
variable {X Y : Nat → Prop} {w0 w : World} {M : Nat → Prop} {h : List aU} {ρ ρ0 : Rho} (m : Mem X w0 M h ρ w) {get : Get} (hg : ∀ id c, get id = .live c → Heap.get h id = .live c) {roots : List Nat}
 (hr:kQ roots ρ ρ0) (hb: ∀(k b:Nat),ρ0 k=.row b→ ∃id:Nat,roots[k]? =some id∧ρ id=.row b) (hL: ∀b,(b9 ρ0 b∨Y b)→(b9 ρ b∨X b))
include m hg hr hb hL
theorem vN: ∀ {l l':List aF} {o:List Bool} {vd:Bool} (f:Nat→Value),cvL get roots l=some (l',o,vd)→(∀b∈o,b=true)→(vd=true→ ∀b, ¬Y b)→
  (∀q,q<l.length→CR X w ρ (l.getD q .any) (f q))→l'.length=l.length∧ ∀q,q<l.length→CR Y w ρ0 (l'.getD q .any) (f q)
 |[],l',o,vd,f,hc,_,_,_=>by
  injection hc with hc;injection hc with h1 h2;subst h1
  exact⟨rfl,fun q hq=>by simp at hq⟩
 |x::r,l',o,vd,f,hc,ho,hv,hx=>by
  simp only[cvL]at hc
  split at hc
  ·rename_i y o1 b ys o2 b' e1 e2
   injection hc with hc;injection hc with h1 h2;injection h2 with h2 h3;subst h1 h2 h3
   obtain⟨g1,g2⟩:=vN (fun q=>f (q+1)) e2 (fun b hb=>ho b (List.mem_append_right _ hb)) (fun h=>hv (by simp[h])) (fun q hq=>by simpa using hx (q+1) (by simpa using hq))
   refine⟨by simp[g1],fun q hq=> ?_⟩
   cases q with
   |zero=>simpa using vM m hg hr hb e1 (fun b hb=>ho b (List.mem_append_left _ hb)) hL (fun h=>hv (by simp[h])) (by simpa using hx 0 (by simp))
   |succ q=>simpa using g2 q (by simpa using hq)
  ·cases hc
theorem F5 {x y:AV} {o:List Bool} {vd:Bool} {v:Value} (hc:cvA get roots x=some (y,o,vd)) (ho: ∀b∈o,b=true) (hv:vd=true→ ∀b, ¬Y b) (hx:AVR X w ρ x v):AVR Y w ρ0 y v:=by
 cases hx with
 |any v=>injection hc with hc;injection hc with h1 h2;subst h1;exact .any v
 |c x v hx=>
  obtain⟨⟨y',o',b⟩,h1,h2⟩:=Option.map_eq_some_iff.1 hc
  injection h2 with h2 h3;injection h3 with h3 h4;subst h2 h3 h4
  exact .c _ _ (vM m hg hr hb h1 ho hL hv hx)
 |agg cs vs hs hx=>
  obtain⟨⟨y',o',b⟩,h1,h2⟩:=Option.map_eq_some_iff.1 hc
  injection h2 with h2 h3;injection h3 with h3 h4;subst h2 h3 h4
  obtain⟨g1,g2⟩:=vN m hg hr hb hL (fun q=>vs.getD q undef) h1 ho hv hx
  exact .agg _ _ (by rw[g1,hs]) fun i hi=>g2 i (by rw[←g1];exact hi)
 |tup l vs hs hx=>cases hc
theorem pT: ∀ {l l':List AV} {o:List Bool} {vd:Bool} (f:Nat→Value),E7 get roots l=some (l',o,vd)→(∀b∈o,b=true)→(vd=true→ ∀b, ¬Y b)→
  (∀q,q<l.length→AVR X w ρ (l.getD q .any) (f q))→l'.length=l.length∧ ∀q,q<l.length→AVR Y w ρ0 (l'.getD q .any) (f q)
 |[],l',o,vd,f,hc,_,_,_=>by
  injection hc with hc;injection hc with h1 h2;subst h1
  exact⟨rfl,fun q hq=>by simp at hq⟩
 |x::r,l',o,vd,f,hc,ho,hv,hx=>by
  simp only[E7]at hc
  split at hc
  ·rename_i y o1 b ys o2 b' e1 e2
   injection hc with hc;injection hc with h1 h2;injection h2 with h2 h3;subst h1 h2 h3
   obtain⟨g1,g2⟩:=pT (fun q=>f (q+1)) e2 (fun b hb=>ho b (List.mem_append_right _ hb)) (fun h=>hv (by simp[h])) (fun q hq=>by simpa using hx (q+1) (by simpa using hq))
   refine⟨by simp[g1],fun q hq=> ?_⟩
   cases q with
   |zero=>simpa using F5 m hg hr hb hL e1 (fun b hb=>ho b (List.mem_append_left _ hb)) (fun h=>hv (by simp[h])) (by simpa using hx 0 (by simp))
   |succ q=>simpa using g2 q (by simpa using hq)
  ·cases hc
end
theorem DU {p:aU→Bool} (hp:p .unborn=true) {h:List aU} (ha:h.all p=true) (k:Nat):p (Heap.get h k)=true:=by
 rcases Nat.lt_or_ge k h.length with hk|hk
 ·have:Heap.get h k=h[k]:=by simp[Heap.get,hk]
  rw[this];exact List.all_eq_true.1 ha _ (List.getElem_mem hk)
 ·rw[Heap.get_ge hk];exact hp
theorem zH {P:Program} {f:FuncId} {F:aM} (hF:aQ P f F)
  {roots:List Nat} {args:List AV} {get:Get} {base:Nat} {e:Eff} (he:J5 F roots args get base=some e) (ho: ∀b∈e.obl,b=true):vG P f args get base e:=by
 unfold J5 at he
 cases hc:cT roots&&roots.all (D5 get)with
 |false=>rw[hc]at he;cases he
 |true=>
 rw[hc]at he
 simp only[cond_true]at he
 simp only[Bool.and_eq_true,rpS,List.all_eq_true]at hc
 obtain⟨hnd,hok⟩:=hc
 split at he
 ·cases he
 rename_i cargs o vd hcv
 split at he
 ·cases he
 rename_i res h1 o' hmod
 cases hc:Nat.ble roots.length h1.length&&Nat.ble h1.length (roots.length+8)&&(!vd||(res.vfree&&h1.all aU.vfree))&&h1.all aU.plain with
 |false=>rw[hc]at he;cases he
 |true=>
 rw[hc]at he
 simp only[cond_true,Option.some.injEq]at he
 subst he
 simp only[Bool.and_eq_true,rpS,Nat.ble_eq]at hc
 obtain⟨⟨⟨hml,hmh⟩,hvf⟩,hplain⟩:=hc
 refine⟨(hF _ _ _ _ _ hmod (fun b hb=>ho b (List.mem_append_right _ hb))).1, ?_⟩
 intro X w0 w M h ρ mm hg hbase vs hvl hva
 dsimp only at ho
 have hlive: ∀(k id:Nat),roots[k]? =some id→ ∃c,get id=.live c∧Heap.get h id=.live c∧ ∀e n g,c≠ .recs e n g:=by
  intro k id hk
  have:=hok id (List.mem_of_getElem? hk)
  simp only[D5,Bool.and_eq_true,rpS,gY]at this
  cases hgi:get id with
  |live c=>rw[hgi]at this;exact⟨c,rfl,hg _ _ hgi,fun e n g hc=>by subst hc;simp[aU.plain]at this⟩
  |unborn=>rw[hgi]at this;simp at this
  |dead=>rw[hgi]at this;simp at this
 have hρ0: ∀(k id:Nat),roots[k]? =some id→cB h roots ρ k=ρ id:=by
  intro k id hk
  obtain⟨c,_,h2,h3⟩:=hlive k id hk
  unfold cB;rw[hk];dsimp only;rw[h2]
  cases c with
  |recs e n g=>exact absurd rfl (h3 e n g)
  |_=>rfl
 have hρ0n: ∀(k:Nat),roots[k]? =none→cB h roots ρ k=.unborn:=by
  intro k hk;unfold cB;rw[hk]
 generalize hr0:cB h roots ρ=ρ0 at*
 have hren:kQ roots ρ ρ0:=by rw[←hr0];exact eF _ _ _
 have hrow: ∀(k b:Nat),ρ0 k=.row b→ ∃id:Nat,roots[k]? =some id∧ρ id=.row b:=fun k b hk=>by rw[←hr0]at hk;exact fJ hk
 have hlv0: ∀b,b9 ρ0 b→b9 ρ b:=fun b ⟨k,hk⟩=>by obtain⟨id,_,h2⟩:=hrow k b hk;exact⟨id,h2⟩
 let Y:Nat→Prop:=fun b=>vd=false∧(b9 ρ b∨X b)∧ ¬b9 ρ0 b
 have hL: ∀b,(b9 ρ0 b∨Y b)→(b9 ρ b∨X b):=fun b hb=>hb.elim (fun h'=> .inl (hlv0 b h')) (fun h'=>h'.2.1)
 have hmap:(roots.map fun id=>(get id).ren roots)=roots.map fun id=>(Heap.get h id).ren roots:=by
  apply List.map_congr_left
  intro id hid
  obtain⟨k,hk⟩:=List.getElem?_of_mem hid
  obtain⟨c,c1,c2,_⟩:=hlive k id hk
  rw[c1,c2]
 rw[hmap]at hmod
 have m0:Mem Y w (b9 ρ0) (roots.map fun id=>(Heap.get h id).ren roots) ρ0 w:=by
  refine⟨fun k=> ?_,fun i j b hi hj=> ?_,fun k b hk=> .inr ⟨k,hk⟩,rfl,rfl,rfl,Nat.le_refl _,fun _ _ _=>rfl,fun b hb=>⟨?_,hb.2.2⟩⟩
  ·have:=mm.slot_ren (l:=roots) (Y:=Y) (fun b hb=>hb.2.1) k
   rw[hr0]at this;exact this
  ·have:=(mm.ren hnd).inj
   rw[hr0]at this;exact this i j b hi hj
  ·rcases hb.2.1 with⟨id,h'⟩|h'
   ·exact mm.lt h'
   ·have:=(mm.foreign b h').1;have:=mm.size;omega
 obtain⟨hcl,hca⟩:=pT mm hg hren hrow hL (fun q=>vs.getD q undef) hcv (fun b hb=>ho b (List.mem_append_left _ hb)) (fun hv b hb=>by rw[hb.1]at hv;cases hv) hva
 have hcall:=(hF _ _ _ _ _ hmod (fun b hb=>ho b (List.mem_append_right _ hb))).2 m0 vs (by rw[hcl,hvl]) (fun q hq=>hca q (by rw[←hcl];exact hq))
 refine Calls.mono hcall ?_
 rintro e' w' ⟨v,ρ1,rfl,mb,im,m1,hv⟩
 have hunb: ∀i,i<8→ρ (base+i)=.unborn:=by
  intro i hi
  have hs:=mm.slot (base+i);rw[(hbase i hi).1]at hs
  cases hx:ρ (base+i)<;>rw[hx]at hs<;>first|rfl|exact hs.elim
 have htl:(roots++cL 8 base).length=roots.length+8:=by simp[tR]
 have htg1: ∀(k id:Nat),roots[k]? =some id→(roots++cL 8 base)[k]? =some id:=by
  intro k id hk
  rw[List.getElem?_append_left (List.getElem?_eq_some_iff.1 hk).1];exact hk
 have htg: ∀(k id:Nat),(roots++cL 8 base)[k]? =some id→roots[k]? =some id∨(roots.length≤k∧ ∃i,i<8∧id=base+i∧k=roots.length+i):=by
  intro k id hk
  rw[List.getElem?_append]at hk
  split at hk
  ·exact .inl hk
  ·rename_i hge
   rw[tQ]at hk
   split at hk
   ·rename_i hi
    injection hk with hk
    exact .inr ⟨by omega,_,hi,hk.symm,by omega⟩
   ·cases hk
 have hnt:cT (roots++cL 8 base)=true:=by
  refine JW fun i j x hi hj=> ?_
  have no: ∀(k i':Nat),i'<8→roots[k]? =some (base+i')→False:=fun k i' hi' hk=>by
   obtain⟨c,_,c2,_⟩:=hlive k _ hk
   rw[(hbase i' hi').1]at c2;cases c2
  rcases htg i x hi with hi'|⟨_,i',i1,i2,i3⟩<;>rcases htg j x hj with hj'|⟨_,j',j1,j2,j3⟩
  ·exact kZ hnd hi' hj'
  ·subst j2;exact(no i j' j1 hi').elim
  ·subst i2;exact(no j i' i1 hj').elim
  ·omega
 generalize htdef:roots++cL 8 base=T at*
 have hidx: ∀(k id:Nat),T[k]? =some id↔idx? T id=some k:=fun k id=>⟨fun h=>idx?_some hnt h,idx?_spec⟩
 let ρ':Rho:=fun id=>match idx? T id with
  |some k=>ρ1 k
  |none=>ρ id
 have hin: ∀(k id:Nat),T[k]? =some id→ρ' id=ρ1 k:=fun k id hk=>by
  show(match idx? T id with|some k=>ρ1 k|none=>ρ id)=ρ1 k
  rw[(hidx k id).1 hk]
 have hout: ∀id,idx? T id=none→ρ' id=ρ id:=fun id hk=>by
  show(match idx? T id with|some k=>ρ1 k|none=>ρ id)=ρ id
  rw[hk]
 have hk1: ∀k,ρ1 k≠ .unborn→k<h1.length:=by
  intro k hk
  rcases Nat.lt_or_ge k h1.length with h'|h'
  ·exact h'
  ·have hs:=m1.slot k;rw[Heap.get_ge h']at hs
   cases hx:ρ1 k<;>rw[hx]at hs<;>first|exact absurd hx hk|exact hs.elim
 have hbacks:DO T ρ1 ρ':=by
  intro k hk
  have hlt:=hk1 k hk
  have hkT:k<T.length:=by omega
  have:T[k]? =some (T.getD k 0):=by simp[List.getD_eq_getElem?_getD,List.getElem?_eq_getElem hkT]
  exact hin k _ this
 have hnot0: ∀id b,idx? T id=none→ρ id=.row b→ ¬b9 ρ0 b:=by
  rintro id b hid hb ⟨k,hk⟩
  obtain⟨j,j1,j2⟩:=hrow k b hk
  have:=mm.inj id j b hb j2
  subst this
  rw[(hidx k id).1 (htg1 k id j1)]at hid;cases hid
 have hown1: ∀k b,ρ1 k=.row b→w.heap.size≤b∨b9 ρ b:=fun k b hk=>(m1.own k b hk).imp id (hlv0 b)
 have hmono:bL w ρ w' ρ':=by
  refine⟨fun b hb hl=>m1.keep b hb (fun h'=>hl (hlv0 b h')),mb.shape,mb.size,fun id hd=> ?_,fun id hd=> ?_,fun id b hd=> ?_,fun id b hd=> ?_⟩
  ·cases hi:idx? T id with
   |none=>rw[hout id hi];exact hd
   |some k=>
    have hk:=idx?_spec hi
    rw[hin k id hk]
    rcases htg k id hk with h'|⟨_,i,i1,i2,_⟩
    ·exact im.dead k (by rw[hρ0 k id h'];exact hd)
    ·subst i2;rw[hunb i i1]at hd;cases hd
  ·cases hi:idx? T id with
   |none=>rw[hout id hi];exact .inl hd
   |some k=>
    have hk:=idx?_spec hi
    rw[hin k id hk]
    rcases htg k id hk with h'|⟨_,i,i1,i2,_⟩
    ·exact im.nil k (by rw[hρ0 k id h'];exact hd)
    ·subst i2;rw[hunb i i1]at hd;cases hd
  ·cases hi:idx? T id with
   |none=>rw[hout id hi];exact .inl hd
   |some k=>
    have hk:=idx?_spec hi
    rw[hin k id hk]
    rcases htg k id hk with h'|⟨_,i,i1,i2,_⟩
    ·exact im.at_ k b (by rw[hρ0 k id h'];exact hd)
    ·subst i2;rw[hunb i i1]at hd;cases hd
  ·cases hi:idx? T id with
   |none=>rw[hout id hi]at hd;exact .inl ⟨id,hd⟩
   |some k=>
    rw[hin k id (idx?_spec hi)]at hd
    exact(hown1 k b hd).symm
 have hLb:(∀b,(b9 ρ' b∨X b)→(b9 ρ1 b∨Y b))∨(res.vfree=true∧h1.all aU.vfree=true):=by
  cases hvd:vd with
  |true=>
   rw[hvd]at hvf
   simp only[Bool.not_true,Bool.false_or,Bool.and_eq_true,rpS]at hvf
   exact .inr hvf
  |false=>
   refine .inl fun b hb=> ?_
   rcases hb with⟨id,hid⟩|hx
   ·cases hi:idx? T id with
    |some k=>rw[hin k id (idx?_spec hi)]at hid;exact .inl ⟨k,hid⟩
    |none=>
     rw[hout id hi]at hid
     exact .inr ⟨hvd,.inl ⟨id,hid⟩,hnot0 id b hi hid⟩
   ·refine .inr ⟨hvd,.inr hx,fun⟨k,hk⟩=> ?_⟩
    obtain⟨j,_,j2⟩:=hrow k b hk
    exact mm.notX j2 hx
 refine⟨v,ρ',rfl,hmono,⟨fun id=> ?_,fun i j b hi hj=> ?_,fun id b hd=> ?_,by rw[m1.os,mm.os],by rw[m1.tape,mm.tape],by rw[m1.output,mm.output],Nat.le_trans mm.size m1.size,
  fun k hk hM=> ?_,mm.foreign⟩,AVR.back hbacks hv (hLb.imp id And.left)⟩
 ·have hltT: ∀x∈T,x<h.length:=by
   intro x hx
   obtain⟨k,hk⟩:=List.getElem?_of_mem hx
   rcases htg k x hk with h'|⟨_,i,i1,i2,_⟩
   ·obtain⟨c,_,c2,_⟩:=hlive k x h'
    exact Heap.lt_of_live (by rw[c2];simp)
   ·subst i2;exact(hbase i i1).2
  rw[AN T T h1 h id hnt hltT]
  cases hi:idx? T id with
  |none=>
   rw[hout id hi]
   exact(mm.slot id).mono hmono fun b hb=>m1.keep b (mm.lt hb) (hnot0 id b hi hb)
  |some k=>
   have hk:=idx?_spec hi
   rw[hin k id hk]
   have hback:=eN.back hbacks (Y:=X) (DU rfl hplain k) (m1.slot k) (hLb.imp (fun x=>x) fun h'=>DU rfl h'.2 k)
   dsimp only
   split
   ·exact hback
   ·rename_i hge
    have hge:h1.length≤k:=by omega
    rw[Heap.get_ge hge]at hback
    have:Heap.get h id=.unborn:=by
     rcases htg k id hk with h'|⟨_,i,i1,i2,_⟩
     ·have:=(List.getElem?_eq_some_iff.1 h').1;omega
     ·subst i2;exact(hbase i i1).1
    rw[this];exact hback
 ·cases hi1:idx? T i with
  |some k=>
   rw[hin k i (idx?_spec hi1)]at hi
   cases hj1:idx? T j with
   |some k'=>
    rw[hin k' j (idx?_spec hj1)]at hj
    have:=m1.inj k k' b hi hj
    subst this
    have a1:=idx?_spec hi1;have a2:=idx?_spec hj1
    rw[a1]at a2;injection a2
   |none=>
    rw[hout j hj1]at hj
    rcases m1.own k b hi with h'|h'
    ·have:=mm.lt hj;omega
    ·exact absurd h' (hnot0 j b hj1 hj)
  |none=>
   rw[hout i hi1]at hi
   cases hj1:idx? T j with
   |some k'=>
    rw[hin k' j (idx?_spec hj1)]at hj
    rcases m1.own k' b hj with h'|h'
    ·have:=mm.lt hi;omega
    ·exact absurd h' (hnot0 i b hi1 hi)
   |none=>rw[hout j hj1]at hj;exact mm.inj i j b hi hj
 ·cases hi:idx? T id with
  |none=>rw[hout id hi]at hd;exact mm.own id b hd
  |some k=>
   rw[hin k id (idx?_spec hi)]at hd
   rcases hown1 k b hd with h'|⟨j,hj⟩
   ·have:=mm.size;exact .inl (by omega)
   ·exact mm.own j b hj
 ·rw[m1.keep k (by have:=mm.size;omega) (fun h'=> ?_),mm.keep k hk hM]
  obtain⟨j,hj⟩:=hlv0 k h'
  rcases mm.own j k hj with h''|h''
  ·omega
  ·exact hM h''
end
section
structure aZ where
 f:Nat
 pos:List Nat
 F:aM
def O7 (pos:List Nat) (args:List AV) (get:Get):List Nat:=
 let l:=jF [] (pos.flatMap fun p=>(args.getD p .any).ids)
 jF l (l.flatMap fun id=>rG (get id))
def a9:List aZ→CT
 |[]=>fun _ _ _ _=>none
 |e::r=>fun f args get base=>if f=e.f then J5 e.F (O7 e.pos args get) args get base else a9 r f args get base
def a7 (P:Program) (l:List aZ):Prop:= ∀e∈l,aQ P e.f e.F
theorem a7.nil (P:Program):a7 P []:=fun e h=>by cases h
theorem a7.cons {P:Program} {e:aZ} {l:List aZ} (h:aQ P e.f e.F) (r:a7 P l):a7 P (e::l):=by
 intro x hx
 rcases List.mem_cons.1 hx with rfl|hx
 ·exact h
 ·exact r x hx
theorem a7.append {P:Program} {a b:List aZ} (h:a7 P a) (r:a7 P b):a7 P (a++b):=by
 intro x hx
 rcases List.mem_append.1 hx with hx|hx
 ·exact h x hx
 ·exact r x hx
theorem aO {P:Program}: ∀ {l:List aZ},a7 P l→bK P (a9 l)
 |[],_=>fun f args get base e h=>by simp[a9]at h
 |x::l,hl=>fun f args get base e h ho=>by
  simp only[a9]at h
  split at h
  ·rename_i e;subst e
   exact zH (hl x List.mem_cons_self) h ho
  ·exact aO (fun y hy=>hl y (List.mem_cons_of_mem _ hy)) f args get base e h ho
def WT (P:Program) (f:FuncId):Prop:= ∃fn,P.funcs[f]? =some fn∧fn.body.isSome=true∧(fn.name== "runtime.NumGoroutine")=false
def aF.lenOk:aF→Prop
 |.view _ c len es _=>len*es=c.size
 |_=>True
def AV.lenOk:AV→Prop
 |.c x=>x.lenOk
 |.agg cs=> ∀x∈cs,x.lenOk
 |_=>True
theorem CR0.lenOk {w:World} {L:Nat→Prop} {ρ:Rho} {c:aF} {v:Value} (h:CR0 w L ρ c v):c.lenOk:=by
 cases h<;>first|trivial|assumption|skip
 rename_i hz _ _ _;simp[aF.lenOk,hz]
theorem AVR.lenOk {X:Nat→Prop} {w:World} {ρ:Rho} {x:AV} {v:Value} (h:AVR X w ρ x v):x.lenOk:=by
 cases h with
 |any=>trivial
 |c x v h=>exact CR0.lenOk h
 |agg cs vs hs h=>
  intro x hx
  obtain⟨i,hi⟩:=List.getElem?_of_mem hx
  have hlt:=(List.getElem?_eq_some_iff.1 hi).1
  have:=CR0.lenOk (h i hlt)
  rw[List.getD_eq_getElem?_getD,hi]at this
  exact this
 |tup=>trivial
theorem bE.len {P:Program} {f:FuncId} {args:List AV} {h:List aU} {res:AV} {h':List aU} (hex:WT P f) (hm:(∀x∈args,x.lenOk)→bE P f args h res h'):bE P f args h res h':=by
 refine⟨hex,fun {X w0 ρ0} m vs hl hv=> ?_⟩
 refine(hm fun x hx=> ?_).2 m vs hl hv
 obtain⟨i,hi⟩:=List.getElem?_of_mem hx
 have hlt:=(List.getElem?_eq_some_iff.1 hi).1
 have:=(hv i hlt).lenOk
 rw[List.getD_eq_getElem?_getD,hi]at this
 exact this
end
section
def MP (x:Nat):List Nat→List Nat
 |[]=>[x]
 |y::r=>bif Nat.blt x y then x::y::r else bif x==y then y::r else y::MP x r
def uni:List Nat→List Nat→List Nat
 |[],b=>b
 |x::r,b=>MP x (uni r b)
def del (x:Nat) (l:List Nat):List Nat:=l.filter fun y=> !(x==y)
def PF:Operand→List Nat
 |.tmp t=>[t]
 |_=>[]
def a1T (ops:Array Oper) (o:Oper):List Nat:=
 (cS o).flatMap PF++(match o.guard with
  |some (j,_)=>match(ops[j]?).bind (·.dst)with|some d=>[d]|none=>[]
  |none=>[])
def PA (ops:Array Oper):List Oper→List Nat→List Nat
 |[],out=>out
 |o::r,out=>
  let l:=PA ops r out
  let l:=match o.dst with
   |some d=>del d l
   |none=>l
  uni (a1T ops o) l
def exL (ex:List (Nat×List Nat)) (id:Nat):List Nat:=
 match ex with
 |[]=>[]
 |(k,l)::r=>bif k==id then l else exL r id
def lv:Code→List Nat→List (Nat×List Nat)→List Nat→List Nat
 |.ret,_,_,ret=>ret
 |.exit id,_,ex,_=>exL ex id
 |.region _ ops _,out,_,_=>PA ops ops.toList out
 |.seq a b,out,ex,ret=>lv a (lv b out ex ret) ex ret
 |.cond x a b,out,ex,ret=>uni (PF x) (uni (lv a out ex ret) (lv b out ex ret))
 |.block id c,out,ex,ret=>lv c out ((id,out)::ex) ret
 |.loop c,out,ex,ret=>lv c [] ex ret
 |_,out,_,_=>out
def sN:Code→List Nat
 |.exit id=>[id]
 |.seq a b=>sN a++sN b
 |.cond _ a b=>sN a++sN b
 |.block _ c=>sN c
 |.loop c=>sN c
 |_=>[]
def j5:Code→Bool
 |.ret=>true
 |.seq a b=>j5 a||j5 b
 |.cond _ a b=>j5 a||j5 b
 |.block _ c=>j5 c
 |.loop c=>j5 c
 |_=>false
def lvB (id:Nat):Code→List Nat→List (Nat×List Nat)→List Nat→Option (List Nat×List Nat)
 |.seq a b,out,ex,ret=>match lvB id a (lv b out ex ret) ex ret with
  |some r=>some r
  |none=>lvB id b out ex ret
 |.cond _ a b,out,ex,ret=>match lvB id a out ex ret with
  |some r=>some r
  |none=>lvB id b out ex ret
 |.block k c,out,ex,ret=>bif k==id then some (lv c out ((k,out)::ex) ret,uni out (uni (bif j5 c then ret else []) ((sN c).foldl (fun l k=>uni (exL ex k) l) [])))else lvB id c out ((k,out)::ex) ret
 |.loop c,out,ex,ret=>lvB id c (lv c [] ex ret) ex ret
 |_,_,_,_=>none
def FZ:List ResultVar→List Nat
 |[]=>[]
 |.tmp t::r=>MP t (FZ r)
 |.cell a _::r=>MP a (FZ r)
def a0 (fn:Func):Code:=match fn.body with|some c=>c|none=> .skip
def a6 (fn:Func) (id:Nat):List Nat:=match lvB id (a0 fn) (FZ fn.results.toList) [] (FZ fn.results.toList)with|some r=>r.1|none=>[]
def a8 (fn:Func) (id:Nat):List Nat:=match lvB id (a0 fn) (FZ fn.results.toList) [] (FZ fn.results.toList)with|some r=>r.2|none=>[]
def y8:List (Nat×AV)→List AV→List AV
 |[],l=>l
 |(t,v)::r,l=>y8 r (l.set t v)
def aR (n:Nat) (l:List (Nat×AV)) (heap:List aU):St:= {tmps:=y8 l (List.replicate n .any),heap}
end
section
def t4:Ex→Bool
 |.normal=>true
 |_=>false
def aC (m:Nat) (live liveX:List Nat) (r:Option Out):Option (Ex×Bool×List Prop×St):=
 r.map fun o=>(o.ex,HY o.obl,o.eqs,fit m (bif t4 o.ex then live else liveX) o.st)
section
variable {ro : Option Nat} {P : Program} {tt : Tab} (hT : iC P tt) {ct : CT} (hct : bK P ct) (bF : P.follows .mixedOrders = true)
include hT hct bF
theorem aN.roundsR {m id:Nat} {body:Code} {α:Type} (Inv:α→Prop) (I:α→St) (μ:α→Nat) (live liveX:List Nat) (ex:α→Ex) (post:α→St) (lc:α→List (Nat×LC))
  (hlc: ∀x,Inv x→aK ro P m (lc x) body)
  (h: ∀x,Inv x→ ∃n p e b q s,aC m live liveX (aD tt ct (lc x) m n body (I x) p)=some (e,b,q,s)∧b=true∧(∀x∈q,x)∧
   ((e=.normal∧ ∃y,Inv y∧μ y<μ x∧s=I y∧ex y=ex x∧post y=post x)∨(e=.exit id∧ex x=.normal∧s=post x)∨(e≠ .normal∧e≠ .exit id∧ex x=e∧s=post x))):
  ∀x,Inv x→aN ro P m (.block id (.loop body)) (I x) fun e t=>e=ex x∧t=post x:=by
 refine aN.rounds hT hct bF Inv I μ live liveX ex post lc hlc fun x hx=> ?_
 obtain⟨n,p,e,b,q,s,hr,hb,hq,hc⟩:=h x hx
 obtain⟨o,ho,h1⟩:=Option.map_eq_some_iff.1 hr
 simp only[Prod.mk.injEq]at h1
 obtain⟨rfl,rfl,rfl,rfl⟩:=h1
 refine⟨n,p,o,ho,kR hb,hq, ?_⟩
 rcases hc with⟨h1,y,hy,hm,hs,e1,e2⟩|⟨h1,h2,h3⟩|⟨h1,h2,h3,h4⟩
 ·rw[h1]at hs
  exact .inl ⟨h1,y,hy,hm,hs,e1,e2⟩
 ·rw[h1]at h3
  exact .inr (.inl ⟨h1,h2,h3⟩)
 ·refine .inr (.inr ⟨h1,h2,h3, ?_⟩)
  have:t4 o.ex=false:=by cases hx:o.ex<;>first|rfl|exact absurd hx h1
  rw[this]at h4;exact h4
theorem aN.roundsN {m id:Nat} {body:Code} {α:Type} (Inv:α→Prop) (I:α→St) (μ:α→Nat) (live liveX:List Nat) (post:α→St) (lc:α→List (Nat×LC))
  (hlc: ∀x,Inv x→aK ro P m (lc x) body)
  (h: ∀x,Inv x→ ∃n p e b q s,aC m live liveX (aD tt ct (lc x) m n body (I x) p)=some (e,b,q,s)∧b=true∧(∀x∈q,x)∧
   ((e=.normal∧ ∃y,Inv y∧μ y<μ x∧s=I y∧post y=post x)∨(e=.exit id∧s=post x))):
  ∀x,Inv x→aN ro P m (.block id (.loop body)) (I x) fun e t=>e=.normal∧t=post x:=by
 refine aN.roundsR hT hct bF Inv I μ live liveX (fun _=> .normal) post lc hlc fun x hx=> ?_
 obtain⟨n,p,e,b,q,s,hr,hb,hq,hc⟩:=h x hx
 refine⟨n,p,e,b,q,s,hr,hb,hq, ?_⟩
 rcases hc with⟨h1,y,hy,hm,hs,e2⟩|⟨h1,h3⟩
 ·exact .inl ⟨h1,y,hy,hm,hs,rfl,e2⟩
 ·exact .inr (.inl ⟨h1,rfl,h3⟩)
end
end
section
theorem bE.view {P:Program} {f:FuncId} {args:List AV} {len es:Nat} {cap:Option Nat} {c:Con} (hm:bE P f args [] (.c (.sl 0 0 len es cap)) [.live c]) (hf:c.free=true) (hz:len*es=c.size):
  bE P f args [] (.c (.view none c len es cap)) []:=by
 refine⟨hm.1,fun {X w0 ρ0} m vs hl hv=> ?_⟩
 refine Calls.mono (hm.2 m vs hl hv) ?_
 rintro e w' ⟨v,ρ',rfl,mb,im,m',hr⟩
 have hun: ∀id,ρ0 id=.unborn:=fun id=>by
  have hs:=m.slot id
  rw[Heap.get_ge (by simp)]at hs
  cases hx:ρ0 id<;>rw[hx]at hs<;>first|rfl|exact hs.elim
 have hnl: ∀b, ¬b9 ρ0 b:=fun b ⟨id,h⟩=>by rw[hun id]at h;cases h
 have mb2:cX w' (fun b=>b9 ρ' b∨X b) w' (fun b=>b9 ρ0 b∨X b):=⟨fun _ _ _=>rfl,fun _ _=>rfl,Nat.le_refl _,fun b hb=> .inl (hb.elim (fun h=>absurd h (hnl b)) .inr)⟩
 refine⟨v,ρ0,rfl,⟨mb.keep,mb.shape,mb.size,fun b hb=> .inl hb⟩,cA.refl _,⟨fun id=> ?_,(fun i j b hi _=>absurd (hun i) (by rw[hi];simp)),(fun id b hb=>absurd (hun id) (by rw[hb];simp)),m'.os,m'.tape,m'.output,m'.size,m'.keep,m'.foreign⟩, ?_⟩
 ·rw[Heap.get_ge (by simp),hun id];trivial
 ·have hs:Heap.get [aU.live c] 0=.live c:=rfl
  refine .c _ _ ?_
  rcases dQ m' hs (cP hr)with⟨b,k,ty,n,hb,rfl,⟨cs,ty',hrow,hsz,hcs⟩,hsh,hn,hl',hcap⟩|⟨a,rfl,rfl,hcap⟩
  ·rw[Nat.zero_mul]
   refine .view none c len es cap b 0 k (fun q=>cs.getD q undef) (fun _ h=> ?_) (fun q hq=> ?_) (fun q hq=>((hcs q hq).free (eL hf q)).mono mb2 (cA.noIds _)) hz hl' hcap (fun _ h=>by cases h)
   ·rcases h with h|h
    ·exact hnl b h
    ·exact m'.notX hb h
   ·have hq':q<cs.size:=by omega
    simp[World.cell?,hrow,Array.getD,hq']
  ·exact .viewNone none c es cap a 0 (by omega) hcap (fun _ h=>by cases h) (fun _=>rfl)
end
section
def tt:Tab:=[
 none,
 some ⟨1,8,false,[.nilf],.cells,.other,false⟩,
 some ⟨1,8,false,[.int .i64 0],.ints .i64,.int .i64,false⟩,
 some ⟨1,8,false,[.int .i64 0],.ints .i64,.int .i64,false⟩,
 some ⟨1,1,false,[.bool false],.bools,.bool,false⟩,
 some ⟨1,1,false,[.int .u8 0],.ints .u8,.int .u8,false⟩,
 some ⟨1,1,false,[.int .u8 0],.ints .u8,.int .u8,false⟩,
 some ⟨4,24,true,[.int .i64 0,.int .i64 0,.bool false,.int .u8 0],.cells,.struct [(0,2),(1,3),(2,4),(3,6)],false⟩,
 some ⟨4,24,true,[.int .i64 0,.int .i64 0,.bool false,.int .u8 0],.cells,.struct [(0,2),(1,3),(2,4),(3,6)],false⟩,
 some ⟨1,16,false,[.str ByteArray.empty],.typ .str,.str,false⟩,
 some ⟨1,16,false,[.str ByteArray.empty],.typ .str,.str,false⟩,
 some ⟨1,16,false,[.str ByteArray.empty],.typ .str,.str,false⟩,
 some ⟨1,8,false,[.int .u64 0],.ints .u64,.int .u64,false⟩,
 some ⟨2,24,true,[.str ByteArray.empty,.int .u64 0],.cells,.struct [(0,9),(1,12)],false⟩,
 some ⟨2,24,true,[.str ByteArray.empty,.int .u64 0],.cells,.struct [(0,9),(1,12)],false⟩,
 some ⟨1,8,false,[.nilp],.cells,.ptr 288,false⟩,
 some ⟨1,8,false,[.nilp],.cells,.ptr 291,false⟩,
 some ⟨1,8,false,[.nilp],.cells,.ptr 299,false⟩,
 some ⟨1,8,true,[.nilp],.cells,.struct [(0,17)],false⟩,
 some ⟨1,8,true,[.nilp],.cells,.struct [(0,17)],false⟩,
 none,
 some ⟨1,4,false,[.int .i32 0],.ints .i32,.int .i32,false⟩,
 some ⟨1,24,false,[.nils],.cells,.slice 119,false⟩,
 some ⟨2,32,true,[.int .i64 0,.nils],.cells,.struct [(0,3),(1,22)],false⟩,
 some ⟨2,32,true,[.int .i64 0,.nils],.cells,.struct [(0,3),(1,22)],false⟩,
 some ⟨1,8,false,[.nilf],.cells,.other,false⟩,
 some ⟨1,8,false,[.nilf],.cells,.other,false⟩,
 some ⟨1,24,false,[.nils],.cells,.slice 73,false⟩,
 some ⟨2,32,true,[.int .i64 0,.nils],.cells,.struct [(0,3),(1,27)],false⟩,
 some ⟨2,32,true,[.int .i64 0,.nils],.cells,.struct [(0,3),(1,27)],false⟩,
 some ⟨1,8,false,[.nilf],.cells,.other,false⟩,
 some ⟨1,8,false,[.nilf],.cells,.other,false⟩,
 some ⟨1,8,false,[.nilf],.cells,.other,false⟩,
 some ⟨1,8,false,[.nilf],.cells,.other,false⟩,
 some ⟨1,24,false,[.nils],.cells,.slice 4,false⟩,
 some ⟨3,56,true,[.int .i64 0,.nils,.nils],.cells,.struct [(0,24),(2,34)],false⟩,
 some ⟨3,56,true,[.int .i64 0,.nils,.nils],.cells,.struct [(0,24),(2,34)],false⟩,
 some ⟨1,8,false,[.nilf],.cells,.other,false⟩,
 some ⟨1,8,false,[.nilf],.cells,.other,false⟩,
 some ⟨3,56,true,[.int .i64 0,.nils,.nils],.cells,.struct [(0,29),(2,34)],false⟩,
 some ⟨3,56,true,[.int .i64 0,.nils,.nils],.cells,.struct [(0,29),(2,34)],false⟩,
 some ⟨1,8,false,[.nilf],.cells,.other,false⟩,
 some ⟨1,8,false,[.nilf],.cells,.other,false⟩,
 some ⟨1,8,false,[.nilf],.cells,.other,false⟩,
 none,
 some ⟨1,8,false,[.nilf],.cells,.other,false⟩,
 some ⟨1,8,false,[.nilf],.cells,.other,false⟩,
 some ⟨1,24,false,[.nils],.cells,.slice 9,false⟩,
 some ⟨1,8,false,[.nilf],.cells,.other,false⟩,
 some ⟨1,8,false,[.nilf],.cells,.other,false⟩,
 some ⟨1,8,false,[.nilf],.cells,.other,false⟩,
 some ⟨1,8,false,[.nilf],.cells,.other,false⟩,
 some ⟨1,8,false,[.nilf],.cells,.other,false⟩,
 none,
 some ⟨1,8,false,[.nilf],.cells,.other,false⟩,
 some ⟨1,8,false,[.nilf],.cells,.other,false⟩,
 some ⟨1,8,false,[.nilf],.cells,.other,false⟩,
 some ⟨1,8,false,[.nilf],.cells,.other,false⟩,
 some ⟨1,8,false,[.nilf],.cells,.other,false⟩,
 some ⟨1,8,false,[.nilf],.cells,.other,false⟩,
 some ⟨1,8,false,[.nilf],.cells,.other,false⟩,
 some ⟨1,8,false,[.nilf],.cells,.other,false⟩,
 some ⟨4,48,true,[.int .i64 0,.str ByteArray.empty,.str ByteArray.empty,.int .i64 0],.typ .evt,.struct [(0,3),(1,9),(2,9),(3,3)],false⟩,
 some ⟨4,48,true,[.int .i64 0,.str ByteArray.empty,.str ByteArray.empty,.int .i64 0],.typ .evt,.struct [(0,3),(1,9),(2,9),(3,3)],false⟩,
 some ⟨1,8,false,[.nilf],.cells,.other,false⟩,
 none,
 some ⟨1,8,false,[.nilf],.cells,.other,false⟩,
 some ⟨4,48,true,[.int .i64 0,.str ByteArray.empty,.str ByteArray.empty,.int .i64 0],.typ .evt,.struct [(0,3),(1,9),(2,9),(3,3)],false⟩,
 some ⟨1,8,false,[.nilf],.cells,.other,false⟩,
 some ⟨1,8,false,[.nilf],.cells,.other,false⟩,
 some ⟨1,8,false,[.nilf],.cells,.other,false⟩,
 some ⟨1,24,false,[.nils],.cells,.slice 80,false⟩,
 some ⟨2,40,true,[.str ByteArray.empty,.nils],.typ .itm,.struct [(0,9),(1,71)],false⟩,
 some ⟨2,40,true,[.str ByteArray.empty,.nils],.typ .itm,.struct [(0,9),(1,71)],false⟩,
 some ⟨1,8,false,[.nilf],.cells,.other,false⟩,
 some ⟨1,8,false,[.nilf],.cells,.other,false⟩,
 some ⟨1,24,false,[.nils],.ivs .i64,.slice 3,false⟩,
 some ⟨4,80,true,[.int .i64 0,.nils,.nils,.nils],.cells,.struct [(0,3),(1,76),(2,76),(3,34)],false⟩,
 some ⟨4,80,true,[.int .i64 0,.nils,.nils,.nils],.cells,.struct [(0,3),(1,76),(2,76),(3,34)],false⟩,
 some ⟨8,128,true,[.int .i64 0,.nils,.nils,.nils,.bool false,.int .i64 0,.nils,.int .i64 0],.typ .pk,.struct [(0,78),(4,4),(5,3),(6,76),(7,3)],false⟩,
 some ⟨8,128,true,[.int .i64 0,.nils,.nils,.nils,.bool false,.int .i64 0,.nils,.int .i64 0],.typ .pk,.struct [(0,78),(4,4),(5,3),(6,76),(7,3)],false⟩,
 some ⟨1,8,false,[.nilf],.cells,.other,false⟩,
 some ⟨1,8,false,[.nilf],.cells,.other,false⟩,
 some ⟨1,8,false,[.nilf],.cells,.other,false⟩,
 some ⟨1,8,false,[.nilf],.cells,.other,false⟩,
 some ⟨1,8,false,[.nilf],.cells,.other,false⟩,
 some ⟨1,8,false,[.nilf],.cells,.other,false⟩,
 some ⟨1,8,false,[.nilf],.cells,.other,false⟩,
 some ⟨1,8,false,[.nilf],.cells,.other,false⟩,
 some ⟨1,8,false,[.nilf],.cells,.other,false⟩,
 some ⟨1,8,false,[.nilf],.cells,.other,false⟩,
 some ⟨1,8,false,[.nilf],.cells,.other,false⟩,
 some ⟨1,8,false,[.nilf],.cells,.other,false⟩,
 some ⟨1,8,false,[.nilf],.cells,.other,false⟩,
 none,
 some ⟨1,8,false,[.nilf],.cells,.other,false⟩,
 some ⟨1,8,false,[.nilf],.cells,.other,false⟩,
 some ⟨1,8,false,[.nilf],.cells,.other,false⟩,
 some ⟨1,8,false,[.nilf],.cells,.other,false⟩,
 some ⟨1,8,false,[.nilf],.cells,.other,false⟩,
 some ⟨1,8,false,[.nilf],.cells,.other,false⟩,
 some ⟨1,8,false,[.nilf],.cells,.other,false⟩,
 some ⟨1,8,false,[.nilf],.cells,.other,false⟩,
 some ⟨1,8,false,[.nilf],.cells,.other,false⟩,
 none,
 some ⟨1,8,false,[.nilf],.cells,.other,false⟩,
 some ⟨1,8,false,[.nilf],.cells,.other,false⟩,
 some ⟨1,8,false,[.nilf],.cells,.other,false⟩,
 some ⟨1,8,false,[.nilf],.cells,.other,false⟩,
 some ⟨1,24,false,[.nils],.cells,.slice 76,false⟩,
 some ⟨1,8,false,[.nilf],.cells,.other,false⟩,
 some ⟨1,8,false,[.nilf],.cells,.other,false⟩,
 some ⟨1,8,false,[.nilf],.cells,.other,false⟩,
 some ⟨1,8,false,[.nilf],.cells,.other,false⟩,
 some ⟨1,8,false,[.nilf],.cells,.other,false⟩,
 some ⟨1,8,false,[.nilf],.cells,.other,false⟩,
 some ⟨1,8,false,[.nilf],.cells,.other,false⟩,
 some ⟨1,24,false,[.nils],.cells,.slice 201,false⟩,
 some ⟨2,40,true,[.str ByteArray.empty,.nils],.typ .itm,.struct [(0,9),(1,117)],false⟩,
 some ⟨2,40,true,[.str ByteArray.empty,.nils],.typ .itm,.struct [(0,9),(1,117)],false⟩,
 some ⟨1,8,false,[.nilf],.cells,.other,false⟩,
 some ⟨1,8,false,[.nilf],.cells,.other,false⟩,
 some ⟨1,8,false,[.nilf],.cells,.other,false⟩,
 some ⟨1,8,false,[.nilf],.cells,.other,false⟩,
 none,
 some ⟨1,8,false,[.nilf],.cells,.other,false⟩,
 some ⟨1,8,false,[.nilf],.cells,.other,false⟩,
 some ⟨1,8,false,[.nilf],.cells,.other,false⟩,
 some ⟨1,8,false,[.nilf],.cells,.other,false⟩,
 some ⟨1,8,false,[.nilf],.cells,.other,false⟩,
 some ⟨1,8,false,[.nilf],.cells,.other,false⟩,
 none,
 some ⟨1,8,false,[.nilf],.cells,.other,false⟩,
 some ⟨1,8,false,[.nilf],.cells,.other,false⟩,
 some ⟨1,8,false,[.nilf],.cells,.other,false⟩,
 some ⟨1,8,false,[.nilf],.cells,.other,false⟩,
 some ⟨1,8,false,[.nilf],.cells,.other,false⟩,
 some ⟨1,8,false,[.nilf],.cells,.other,false⟩,
 some ⟨1,8,false,[.nilf],.cells,.other,false⟩,
 some ⟨1,24,false,[.nils],.ivs .u8,.slice 5,false⟩,
 some ⟨1,8,false,[.nilf],.cells,.other,false⟩,
 some ⟨1,8,false,[.nilf],.cells,.other,false⟩,
 some ⟨1,8,false,[.nilf],.cells,.other,false⟩,
 some ⟨1,8,false,[.nilf],.cells,.other,false⟩,
 none,
 some ⟨1,8,false,[.nilf],.cells,.other,false⟩,
 some ⟨1,8,false,[.nilf],.cells,.other,false⟩,
 some ⟨1,8,false,[.nilf],.cells,.other,false⟩,
 some ⟨1,8,false,[.nilf],.cells,.other,false⟩,
 some ⟨1,8,false,[.nilf],.cells,.other,false⟩,
 some ⟨1,8,false,[.nilf],.cells,.other,false⟩,
 some ⟨1,8,false,[.nilf],.cells,.other,false⟩,
 some ⟨1,8,false,[.nilf],.cells,.other,false⟩,
 some ⟨1,8,false,[.nilf],.cells,.other,false⟩,
 some ⟨1,8,false,[.nilf],.cells,.other,false⟩,
 some ⟨1,8,false,[.nilf],.cells,.other,false⟩,
 some ⟨1,8,false,[.nilf],.cells,.other,false⟩,
 some ⟨1,8,false,[.nilf],.cells,.other,false⟩,
 some ⟨1,8,false,[.nilf],.cells,.other,false⟩,
 some ⟨1,8,false,[.nilf],.cells,.other,false⟩,
 some ⟨1,8,false,[.nilf],.cells,.other,false⟩,
 some ⟨1,8,false,[.nilf],.cells,.other,false⟩,
 some ⟨1,8,false,[.nilf],.cells,.other,false⟩,
 some ⟨1,8,false,[.nilf],.cells,.other,false⟩,
 some ⟨1,8,false,[.nilf],.cells,.other,false⟩,
 some ⟨1,8,false,[.nilf],.cells,.other,false⟩,
 some ⟨1,8,false,[.nilf],.cells,.other,false⟩,
 some ⟨1,8,false,[.nilf],.cells,.other,false⟩,
 some ⟨1,8,false,[.nilf],.cells,.other,false⟩,
 some ⟨1,8,false,[.nilf],.cells,.other,false⟩,
 some ⟨1,8,false,[.nilf],.cells,.other,false⟩,
 some ⟨1,8,false,[.int .u64 0],.ints .u64,.int .u64,false⟩,
 some ⟨1,8,false,[.nilf],.cells,.other,false⟩,
 some ⟨1,8,false,[.nilf],.cells,.other,false⟩,
 some ⟨1,8,false,[.nilf],.cells,.other,false⟩,
 some ⟨1,8,false,[.int .i64 0],.ints .i64,.int .i64,false⟩,
 some ⟨4,32,true,[.int .i64 0,.int .i64 0,.int .i64 0,.int .i64 0],.ints .i64,.arr 4 175,false⟩,
 some ⟨4,32,true,[.int .i64 0,.int .i64 0,.int .i64 0,.int .i64 0],.ints .i64,.arr 4 175,false⟩,
 none,
 some ⟨1,8,false,[.nilf],.cells,.other,false⟩,
 some ⟨1,8,false,[.nilf],.cells,.other,false⟩,
 some ⟨1,8,false,[.nilf],.cells,.other,false⟩,
 some ⟨1,8,false,[.nilf],.cells,.other,false⟩,
 some ⟨1,8,false,[.nilf],.cells,.other,false⟩,
 some ⟨1,8,false,[.nilf],.cells,.other,false⟩,
 some ⟨3,56,true,[.int .i64 0,.nils,.nils],.cells,.struct [(0,3),(1,76),(2,76)],false⟩,
 some ⟨3,56,true,[.int .i64 0,.nils,.nils],.cells,.struct [(0,3),(1,76),(2,76)],false⟩,
 none,
 some ⟨1,8,false,[.nilf],.cells,.other,false⟩,
 some ⟨1,8,false,[.nilf],.cells,.other,false⟩,
 some ⟨1,8,false,[.nilf],.cells,.other,false⟩,
 some ⟨1,8,false,[.nilf],.cells,.other,false⟩,
 some ⟨1,8,false,[.nilf],.cells,.other,false⟩,
 some ⟨1,8,false,[.nilf],.cells,.other,false⟩,
 some ⟨1,8,false,[.nilf],.cells,.other,false⟩,
 some ⟨1,8,false,[.nilf],.cells,.other,false⟩,
 some ⟨1,8,false,[.nilf],.cells,.other,false⟩,
 some ⟨1,8,false,[.nilp],.cells,.ptr 40,false⟩,
 some ⟨1,8,false,[.nilf],.cells,.other,false⟩,
 some ⟨4,80,true,[.int .i64 0,.nils,.nils,.nils],.cells,.struct [(0,3),(1,76),(2,76),(3,34)],false⟩,
 some ⟨8,128,true,[.int .i64 0,.nils,.nils,.nils,.bool false,.int .i64 0,.nils,.int .i64 0],.typ .pk,.struct [(0,199),(4,4),(5,3),(6,76),(7,3)],false⟩,
 some ⟨8,128,true,[.int .i64 0,.nils,.nils,.nils,.bool false,.int .i64 0,.nils,.int .i64 0],.typ .pk,.struct [(0,199),(4,4),(5,3),(6,76),(7,3)],false⟩,
 some ⟨1,8,false,[.nilf],.cells,.other,false⟩,
 some ⟨1,8,false,[.nilf],.cells,.other,false⟩,
 some ⟨1,8,false,[.nilf],.cells,.other,false⟩,
 some ⟨1,8,false,[.nilf],.cells,.other,false⟩,
 some ⟨1,8,false,[.nilf],.cells,.other,false⟩,
 some ⟨1,8,false,[.nilf],.cells,.other,false⟩,
 some ⟨1,8,false,[.nilf],.cells,.other,false⟩,
 some ⟨1,8,false,[.nilf],.cells,.other,false⟩,
 some ⟨1,8,false,[.nilf],.cells,.other,false⟩,
 some ⟨1,8,false,[.nilf],.cells,.other,false⟩,
 some ⟨1,8,false,[.nilf],.cells,.other,false⟩,
 some ⟨1,8,false,[.nilf],.cells,.other,false⟩,
 some ⟨1,8,false,[.nilf],.cells,.other,false⟩,
 some ⟨1,8,false,[.nilf],.cells,.other,false⟩,
 some ⟨1,8,false,[.nilf],.cells,.other,false⟩,
 some ⟨1,8,false,[.nilf],.cells,.other,false⟩,
 some ⟨1,8,false,[.nilf],.cells,.other,false⟩,
 some ⟨1,8,false,[.nilf],.cells,.other,false⟩,
 some ⟨1,8,false,[.nilf],.cells,.other,false⟩,
 none,
 some ⟨1,8,false,[.nilf],.cells,.other,false⟩,
 some ⟨1,8,false,[.nilf],.cells,.other,false⟩,
 some ⟨1,8,false,[.nilf],.cells,.other,false⟩,
 some ⟨1,8,false,[.nilf],.cells,.other,false⟩,
 some ⟨1,8,false,[.nilf],.cells,.other,false⟩,
 some ⟨1,8,false,[.nilf],.cells,.other,false⟩,
 some ⟨1,8,false,[.nilf],.cells,.other,false⟩,
 some ⟨1,8,false,[.nilf],.cells,.other,false⟩,
 some ⟨1,8,false,[.nilf],.cells,.other,false⟩,
 some ⟨1,8,false,[.nilf],.cells,.other,false⟩,
 some ⟨1,8,false,[.nilf],.cells,.other,false⟩,
 some ⟨1,8,false,[.nilf],.cells,.other,false⟩,
 some ⟨1,8,false,[.nilf],.cells,.other,false⟩,
 some ⟨1,8,false,[.nilf],.cells,.other,false⟩,
 some ⟨1,8,false,[.nilf],.cells,.other,false⟩,
 some ⟨1,24,false,[.nils],.cells,.slice 177,false⟩,
 some ⟨1,24,false,[.nils],.cells,.slice 177,false⟩,
 some ⟨1,8,false,[.nilf],.cells,.other,false⟩,
 some ⟨1,8,false,[.nilp],.cells,.ptr 245,false⟩,
 some ⟨1,8,false,[.nilf],.cells,.other,false⟩,
 some ⟨1,24,false,[.nils],.cells,.slice 250,false⟩,
 some ⟨1,24,false,[.nils],.cells,.slice 248,false⟩,
 some ⟨2,48,true,[.nils,.nils],.cells,.struct [(0,243),(1,76)],false⟩,
 some ⟨2,48,true,[.nils,.nils],.cells,.struct [(0,243),(1,76)],false⟩,
 some ⟨8,64,true,[.int .i64 0,.int .i64 0,.int .i64 0,.int .i64 0,.int .i64 0,.int .i64 0,.int .i64 0,.int .i64 0],.ints .i64,.arr 8 175,false⟩,
 some ⟨12,96,true,[.int .i64 0,.int .i64 0,.int .i64 0,.int .i64 0,.int .i64 0,.int .i64 0,.int .i64 0,.int .i64 0,.int .i64 0,.int .i64 0,.int .i64 0,.int .i64 0],.ints .i64,.struct [(0,177),(4,246)],false⟩,
 some ⟨12,96,true,[.int .i64 0,.int .i64 0,.int .i64 0,.int .i64 0,.int .i64 0,.int .i64 0,.int .i64 0,.int .i64 0,.int .i64 0,.int .i64 0,.int .i64 0,.int .i64 0],.ints .i64,.struct [(0,177),(4,246)],false⟩,
 some ⟨5,40,true,[.int .i64 0,.int .i64 0,.int .i64 0,.int .i64 0,.int .i64 0],.ints .i64,.struct [(0,177),(4,175)],false⟩,
 some ⟨5,40,true,[.int .i64 0,.int .i64 0,.int .i64 0,.int .i64 0,.int .i64 0],.ints .i64,.struct [(0,177),(4,175)],false⟩,
 none,
 some ⟨1,8,false,[.nilf],.cells,.other,false⟩,
 some ⟨1,8,false,[.nilf],.cells,.other,false⟩,
 some ⟨1,8,false,[.nilf],.cells,.other,false⟩,
 some ⟨1,4,false,[.int .u32 0],.ints .u32,.int .u32,false⟩,
 none,
 some ⟨1,8,false,[.nilf],.cells,.other,false⟩,
 some ⟨1,8,false,[.int .u64 0],.ints .u64,.int .u64,false⟩,
 none,
 some ⟨1,8,false,[.nilf],.cells,.other,false⟩,
 some ⟨1,8,false,[.nilf],.cells,.other,false⟩,
 some ⟨1,8,false,[.nilf],.cells,.other,false⟩,
 some ⟨1,8,false,[.int .i64 0],.ints .i64,.int .i64,false⟩,
 none,
 some ⟨1,8,false,[.nilf],.cells,.other,false⟩,
 some ⟨1,8,false,[.nilf],.cells,.other,false⟩,
 some ⟨1,8,false,[.nilf],.cells,.other,false⟩,
 some ⟨1,8,false,[.nilf],.cells,.other,false⟩,
 some ⟨1,8,false,[.nilf],.cells,.other,false⟩,
 some ⟨1,8,false,[.nilf],.cells,.other,false⟩,
 some ⟨1,8,false,[.nilf],.cells,.other,false⟩,
 some ⟨1,8,false,[.nilf],.cells,.other,false⟩,
 some ⟨1,8,false,[.nilf],.cells,.other,false⟩,
 some ⟨1,8,false,[.nilf],.cells,.other,false⟩,
 some ⟨1,24,false,[.nils],.ivs .i64,.slice 175,false⟩,
 some ⟨1,8,false,[.nilf],.cells,.other,false⟩,
 some ⟨1,8,false,[.int .u64 0],.ints .u64,.int .u64,false⟩,
 some ⟨1,8,false,[.nilf],.cells,.other,false⟩,
 some ⟨1,8,false,[.nilf],.cells,.other,false⟩,
 some ⟨1,8,false,[.nilf],.cells,.other,false⟩,
 some ⟨1,8,false,[.nilp],.cells,.ptr 3,false⟩,
 some ⟨1,8,false,[.nilf],.cells,.other,false⟩,
 some ⟨1,8,false,[.nilp],.cells,.ptr 277,false⟩,
 none,
 some ⟨1,8,false,[.nilf],.cells,.other,false⟩,
 some ⟨1,8,false,[.nilf],.cells,.other,false⟩,
 some ⟨4,40,true,[.nilp,.nilp,.nilp,.str ByteArray.empty],.cells,.struct [(0,17),(1,17),(2,17),(3,9)],false⟩,
 some ⟨4,40,true,[.nilp,.nilp,.nilp,.str ByteArray.empty],.cells,.struct [(0,17),(1,17),(2,17),(3,9)],false⟩,
 none,
 none,
 none,
 some ⟨1,1,false,[.int .u8 0],.ints .u8,.int .u8,false⟩,
 some ⟨1,1,false,[.int .u8 0],.ints .u8,.int .u8,false⟩,
 some ⟨1,8,false,[.nilf],.cells,.other,false⟩,
 some ⟨1,8,false,[.nilp],.cells,.ptr 5,false⟩,
 some ⟨1,4,false,[.int .i32 0],.ints .i32,.int .i32,false⟩,
 some ⟨1,4,false,[.int .i32 0],.ints .i32,.int .i32,false⟩,
 some ⟨11,48,true,[.int .u64 0,.int .u64 0,.int .u32 0,.int .u8 0,.int .u8 0,.int .u8 0,.int .u8 0,.nilf,.nilp,.int .i32 0,.int .i32 0],.cells,.struct [(0,12),(1,12),(2,255),(3,292),(4,5),(5,5),(6,293),(7,294),(8,295),(9,296),(10,297)],false⟩,
 some ⟨11,48,true,[.int .u64 0,.int .u64 0,.int .u32 0,.int .u8 0,.int .u8 0,.int .u8 0,.int .u8 0,.nilf,.nilp,.int .i32 0,.int .i32 0],.cells,.struct [(0,12),(1,12),(2,255),(3,292),(4,5),(5,5),(6,293),(7,294),(8,295),(9,296),(10,297)],false⟩,
 none]
end
section
theorem hT:iC Tryz.prog tt:=OK (by kernel_rfl)
theorem bF:Tryz.prog.follows .mixedOrders=true:=by kernel_rfl
theorem c8 {ct:CT} (hct:bK Tryz.prog ct) {lc:List (Nat×LC)} {fuel:Nat} {f:FuncId} {fn:Func} {args:List AV} {h:List aU} {p:gC} {o:rX} (hf:Tryz.prog.funcs[f]? =some fn)
  (hnm:(fn.name== "runtime.NumGoroutine")=false) (he:aE tt ct lc fuel fn args h p=some o) (ho:o.obl=true) (hq: ∀q∈o.eqs,q) (hlc: ∀c,fn.body=some c→aK none Tryz.prog h.length lc c):
  bE Tryz.prog f args h o.res o.heap:=pV hT hct bF hf hnm he ho hq hlc
theorem mo {ct:CT} (hct:bK Tryz.prog ct) {lc:List (Nat×LC)} {fuel:Nat} {f:FuncId} {fn:Func} {args:List AV} {h:List aU} {p:gC} {o:rX} (he:aE tt ct lc fuel fn args h p=some o) (ho:o.obl=true) (hf:Tryz.prog.funcs[f]? =some fn:=by kernel_rfl)
  (hnm:(fn.name== "runtime.NumGoroutine")=false:=by kernel_rfl) (hq: ∀q∈o.eqs,q:=by simp) (hlc: ∀c,fn.body=some c→aK none Tryz.prog h.length lc c:=by exact fun _ _=>aK.nil):
  bE Tryz.prog f args h o.res o.heap:=c8 hct hf hnm he ho hq hlc
end
section
def eY (bs:List Bool):Nat→Nat→List Int
 |0,_=>[]
 |k+1,i=>if bs.getD i false then(i:Int)::eY bs k (i+1)else eY bs k (i+1)
def flg (bs:List Bool):List Int:=eY bs bs.length 0
noncomputable abbrev f112:=Tryz.f69
def uP (nl:Option Bool) (cap:Option Nat) (bs:List Bool) (i:Int) (n:Nat) (out:List Int):St:=
 aR 21 [(7,.c (.view nl (.bools bs) bs.length 1 cap)),(8,.c (.int .i64 bs.length)),(9,.c (.int .i64 i)),(3,.c (.sl 0 0 n 1 none))] [.live (.ints .i64 out)]
def LD (n:Nat) (out:List Int):St:=aR 21 [(3,.c (.sl 0 0 n 1 none))] [.live (.ints .i64 out)]
section
variable (ct : CT) (nl : Option Bool) (cap : Option Nat) (bs : List Bool) (i : Int) (n : Nat) (out : List Int)
theorem S0:aC 0 (a6 f112 0) (a8 f112 0) (aD tt ct [] 0 100 (a5 0 (a0 f112)) (uP nl cap bs i n out) [(0,true),(0,true)])=
  some (.normal,(decide (i<bs.length)&&(decide (0≤i)&&(decide (i<bs.length)&&(decide (i.toNat<bs.length)&&(bs.getD i.toNat false&&(decide (1=[i].length)&&(decide (n=out.length)&&(decide (n+1≤274877906944)&&true)))))))),[],
   uP nl cap bs (IntKind.i64.wrap (i+1)) (n+1) (out++[i])):=by kernel_rfl
theorem S1:aC 0 (a6 f112 0) (a8 f112 0) (aD tt ct [] 0 100 (a5 0 (a0 f112)) (uP nl cap bs i n out) [(0,true),(0,false)])=
  some (.normal,(decide (i<bs.length)&&(decide (0≤i)&&(decide (i<bs.length)&&(decide (i.toNat<bs.length)&&(!bs.getD i.toNat false&&true))))),[],
   uP nl cap bs (IntKind.i64.wrap (i+1)) n out):=by kernel_rfl
theorem S2:aC 0 (a6 f112 0) (a8 f112 0) (aD tt ct [] 0 100 (a5 0 (a0 f112)) (uP nl cap bs i n out) [(0,false)])=
  some (.exit 0,(!decide (i<bs.length)&&true),[],LD n out):=by kernel_rfl
end
theorem aB {i:Int} (h0:0≤i) (h1:i<9223372036854775808):IntKind.i64.wrap i=i:=by
 simp[IntKind.wrap,IntKind.bits,IntKind.signed]
 omega
theorem vS (bs:List Bool): ∀k i,(eY bs k i).length≤k
 |0,_=>by simp[eY]
 |k+1,i=>by
  have:=vS bs k (i+1)
  simp only[eY];split<;>simp<;>omega
def GH:aM:=fun args h=>
 match args,h with
 |[.c (.view nl (.bools bs) len 1 cap)],[]=>some (.c (.sl 0 0 (flg bs).length 1 none),[.live (.ints .i64 (flg bs))],[decide (bs.length≤274877906944)])
 |_,_=>none
theorem a5S {ct:CT} (hct:bK Tryz.prog ct) (nl:Option Bool) (cap:Option Nat) (bs:List Bool) (hl:bs.length≤274877906944):
  aN none Tryz.prog 0 (.block 0 (.loop (a5 0 (a0 f112)))) (uP nl cap bs 0 0 []) fun e t=>e=.normal∧t=LD (flg bs).length (flg bs):=by
 have key:=aN.roundsN (ro:=none) hT hct bF (m:=0) (id:=0) (body:=a5 0 (a0 f112)) (α:=Nat×List Int)
  (fun x=>x.1≤bs.length∧x.2.length≤x.1∧x.2++eY bs (bs.length-x.1) x.1=flg bs) (fun x=>uP nl cap bs x.1 x.2.length x.2) (fun x=>bs.length-x.1) (a6 f112 0) (a8 f112 0)
  (fun _=>LD (flg bs).length (flg bs)) (fun _=>[]) (fun _ _=>aK.nil) (fun x hx=> ?_) (0,[]) ⟨by simp,by simp,by simp[flg]⟩
 ·exact key
 ·obtain⟨i,out⟩:=x
  obtain⟨h1,h2,h3⟩:=hx
  dsimp only at h1 h2 h3⊢
  by_cases hi:i<bs.length
  ·have hk:bs.length-i=(bs.length-(i+1))+1:=by omega
   rw[hk]at h3
   simp only[eY]at h3
   cases hb:bs.getD i false with
   |true=>
    refine⟨_,_,_,_,_,_,S0 ct nl cap bs i out.length out, ?_,by simp,.inl ⟨rfl,(i+1,out++[(i:Int)]),⟨by omega,by simp;omega, ?_⟩,by dsimp only;omega, ?_,rfl⟩⟩
    ·simp[-List.getD_eq_getElem?_getD,hi,hb];omega
    ·rw[hb]at h3;simpa using h3
    ·rw[aB (by omega) (by omega)];simp
   |false=>
    refine⟨_,_,_,_,_,_,S1 ct nl cap bs i out.length out, ?_,by simp,.inl ⟨rfl,(i+1,out),⟨by omega,by dsimp only;omega, ?_⟩,by dsimp only;omega, ?_,rfl⟩⟩
    ·simp[-List.getD_eq_getElem?_getD,hi,hb]
    ·rw[hb]at h3;simpa using h3
    ·rw[aB (by omega) (by omega)];simp
  ·have hz:bs.length-i=0:=by omega
   rw[hz]at h3
   simp only[eY,List.append_nil]at h3
   refine⟨_,_,_,_,_,_,S2 ct nl cap bs i out.length out, ?_,by simp,.inr ⟨rfl,by rw[h3]⟩⟩
   simp;omega
theorem a6Y {ct:CT} (hct:bK Tryz.prog ct):aQ Tryz.prog 69 GH:=by
 intro args h res h' o he ho
 unfold GH at he
 split at he
 ·rename_i nl bs len cap
  simp only[Option.some.injEq,Prod.mk.injEq]at he
  obtain⟨rfl,rfl,rfl⟩:=he
  have hl:bs.length≤274877906944:=by simpa using ho
  refine bE.len ⟨f112,by kernel_rfl,by kernel_rfl,by kernel_rfl⟩ fun hlen=> ?_
  have:len=bs.length:=by have:=hlen _ (List.mem_singleton.2 rfl);simpa [AV.lenOk,aF.lenOk,Con.size]using this
  subst this
  exact c8 hct (fn:=f112) (lc:=[(0,⟨a6 f112 0,uP nl cap bs 0 0 [],.normal,LD (flg bs).length (flg bs)⟩)]) (fuel:=100) (p:=[]) (o:=⟨_,_,true,[uP nl cap bs 0 0 []=uP nl cap bs 0 0 []]⟩) (by kernel_rfl) (by kernel_rfl) (by kernel_rfl) rfl
   (by simp) (fun c hc=>aK.cons (c:=c) (by cases hc;kernel_rfl) (by cases hc;exact a5S hct nl cap bs hl) aK.nil)
 ·cases he
end
section
def fok (n:Int):Bool:=decide (0≤n)&&decide (n≤30)
theorem eK {n:Int}:fok n=true↔0≤n∧n≤30:=by simp[fok]
theorem cR {i:Int} (h0: -9223372036854775808≤i) (h1:i<9223372036854775808):IntKind.i64.wrap i=i:=by
 simp[IntKind.wrap,IntKind.bits,IntKind.signed]
 omega
theorem MF (n:Int):(IntKind.i64.wrap (n.tmod 31+31)).tmod 31=n%31:=by
 have h1: -31<n.tmod 31:=Int.lt_tmod_of_pos n (by omega)
 have h2:n.tmod 31<31:=Int.tmod_lt_of_pos n (by omega)
 rw[cR (by omega) (by omega),Int.tmod_eq_emod_of_nonneg (by omega),Int.add_emod_right]
 rcases Int.le_total 0 n with h|h
 ·rw[Int.tmod_eq_emod_of_nonneg h];omega
 ·have:n.tmod 31= -((-n).tmod 31):=by rw[Int.neg_tmod];simp
  rw[this,Int.tmod_eq_emod_of_nonneg (by omega)];omega
def bet (n lo hi:Int):Bool:=decide (lo≤n)&&decide (n≤hi)
def vC:aM:=fun args h=>
 match args,h with
 |[.c (.int .i64 n),.c (.int .i64 lo),.c (.int .i64 hi)],[]=>some (.c (.bool (bet n lo hi)),[],[])
 |_,_=>none
theorem a73:aQ Tryz.prog 120 vC:=by
 intro args h res h' o he ho
 unfold vC at he
 split at he
 ·rename_i n lo hi
  simp only[Option.some.injEq,Prod.mk.injEq]at he
  obtain⟨rfl,rfl,rfl⟩:=he
  by_cases hc:n≥lo
  ·have e:aE tt (a9 []) [] 100 Tryz.f120 [.c (.int .i64 n),.c (.int .i64 lo),.c (.int .i64 hi)] [] [(0,true)]=some ⟨.c (.bool (bif decide (n≥lo)then decide (n≤hi)else false)),[],decide (n≥lo)&&(decide (n≥lo)&&(decide (n≥lo)&&true)),[]⟩:=by kernel_rfl
   have hr:(bif decide (n≥lo)then decide (n≤hi)else false)=bet n lo hi:=by
    have:lo≤n:=hc
    simp[bet,this]
   rw[hr]at e
   exact mo (aO (a7.nil _)) e (by simp[hc])
  ·have e:aE tt (a9 []) [] 100 Tryz.f120 [.c (.int .i64 n),.c (.int .i64 lo),.c (.int .i64 hi)] [] [(0,false)]=some ⟨.c (.bool false),[], !decide (n≥lo)&&(!decide (n≥lo)&&(!decide (n≥lo)&&(!decide (n≥lo)&&true))),[]⟩:=by kernel_rfl
   have hr:false=bet n lo hi:=by
    have: ¬lo≤n:=hc
    simp[bet,this]
   rw[hr]at e
   exact mo (aO (a7.nil _)) e (by simp;omega)
 ·cases he
theorem m61:aQ Tryz.prog 58 vC:=by
 intro args h res h' o he ho
 unfold vC at he
 split at he
 ·rename_i n lo hi
  simp only[Option.some.injEq,Prod.mk.injEq]at he
  obtain⟨rfl,rfl,rfl⟩:=he
  by_cases hc:n≥lo
  ·have e:aE tt (a9 []) [] 100 Tryz.f58 [.c (.int .i64 n),.c (.int .i64 lo),.c (.int .i64 hi)] [] [(0,true)]=some ⟨.c (.bool (bif decide (n≥lo)then decide (n≤hi)else false)),[],decide (n≥lo)&&(decide (n≥lo)&&(decide (n≥lo)&&true)),[]⟩:=by kernel_rfl
   have hr:(bif decide (n≥lo)then decide (n≤hi)else false)=bet n lo hi:=by
    have:lo≤n:=hc
    simp[bet,this]
   rw[hr]at e
   exact mo (aO (a7.nil _)) e (by simp[hc])
  ·have e:aE tt (a9 []) [] 100 Tryz.f58 [.c (.int .i64 n),.c (.int .i64 lo),.c (.int .i64 hi)] [] [(0,false)]=some ⟨.c (.bool false),[], !decide (n≥lo)&&(!decide (n≥lo)&&(!decide (n≥lo)&&(!decide (n≥lo)&&true))),[]⟩:=by kernel_rfl
   have hr:false=bet n lo hi:=by
    have: ¬lo≤n:=hc
    simp[bet,this]
   rw[hr]at e
   exact mo (aO (a7.nil _)) e (by simp;omega)
 ·cases he
def yK:aM:=fun args h=>
 match args,h with
 |[.c (.int .i64 n)],[]=>some (.c (.int .i64 (n%31)),[],[])
 |_,_=>none
theorem YR:aQ Tryz.prog 265 yK:=by
 intro args h res h' o he ho
 unfold yK at he
 split at he
 ·rename_i n
  simp only[Option.some.injEq,Prod.mk.injEq]at he
  obtain⟨rfl,rfl,rfl⟩:=he
  have e:aE tt (a9 []) [] 100 Tryz.f265 [.c (.int .i64 n)] [] []=some ⟨.c (.int .i64 ((IntKind.i64.wrap (n.tmod 31+31)).tmod 31)),[],true,[]⟩:=by kernel_rfl
  rw[MF]at e
  exact mo (aO (a7.nil _)) e rfl
 ·cases he
def inv (n:Int):Int:=[0,1,16,21,8,25,26,9,4,7,28,17,13,12,20,29,2,11,19,18,14,3,24,27,22,5,6,23,10,15,30].getD n.toNat 0
def vE:aM:=fun args h=>
 match args,h with
 |[.c (.int .i64 n)],[]=>some (.c (.int .i64 (inv n)),[],[fok n])
 |_,_=>none
theorem MY {q:Int→Prop} (h: ∀k:Nat,k<31→q k) {n:Int} (hn:fok n=true):q n:=by
 obtain⟨h0,h1⟩:=eK.1 hn
 have:=h n.toNat (by omega)
 rwa[show(n.toNat:Int)=n from by omega]at this
def cN (f:Nat→Bool):Nat→Bool
 |0=>true
 |n+1=>f n&&cN f n
theorem aX {f:Nat→Bool}: ∀ {n:Nat},cN f n=true→ ∀k,k<n→f k=true
 |0,_,k,h=>absurd h (by omega)
 |n+1,h,k,hk=>by
  simp only[cN,Bool.and_eq_true,rpS]at h
  by_cases e:k=n
  ·subst e;exact h.1
  ·exact aX h.2 k (by omega)
def k9 (r:Option rX) (n:Int):Bool:=
 match r with
 |some ⟨.c (.int .i64 m),[],true,[]⟩=>m==n
 |_=>false
theorem i5 {r:Option rX} {n:Int} (h:k9 r n=true):r=some ⟨.c (.int .i64 n),[],true,[]⟩:=by
 unfold k9 at h
 split at h
 ·simp at h;subst h;rfl
 ·cases h
def T2a:List aZ:=[⟨265,[],yK⟩]
theorem t2a:bK Tryz.prog (a9 T2a):=aO (a7.cons (e:=⟨265,[],yK⟩) YR (a7.nil _))
theorem a8B:aQ Tryz.prog 283 vE:=by
 intro args h res h' o he ho
 unfold vE at he
 split at he
 ·rename_i n
  simp only[Option.some.injEq,Prod.mk.injEq]at he
  obtain⟨rfl,rfl,rfl⟩:=he
  refine MY (q:=fun n=>bE Tryz.prog _ [.c (.int .i64 n)] [] (.c (.int .i64 (inv n))) []) (fun k hk=> ?_) (ho _ (List.mem_singleton.2 rfl))
  have all:cN (fun k=>k9 (aE tt (a9 T2a) [] 1000 Tryz.f283 [.c (.int .i64 k)] [] []) (inv k)) 31=true:=by kernel_rfl
  have e:=i5 (aX all k hk)
  exact mo t2a e rfl
 ·cases he
theorem a89:aQ Tryz.prog 269 vE:=by
 intro args h res h' o he ho
 unfold vE at he
 split at he
 ·rename_i n
  simp only[Option.some.injEq,Prod.mk.injEq]at he
  obtain⟨rfl,rfl,rfl⟩:=he
  refine MY (q:=fun n=>bE Tryz.prog _ [.c (.int .i64 n)] [] (.c (.int .i64 (inv n))) []) (fun k hk=> ?_) (ho _ (List.mem_singleton.2 rfl))
  have all:cN (fun k=>k9 (aE tt (a9 []) [] 1000 Tryz.f269 [.c (.int .i64 k)] [] []) (inv k)) 31=true:=by kernel_rfl
  have e:=i5 (aX all k hk)
  exact mo (aO (a7.nil _)) e rfl
 ·cases he
def T2:List aZ:=[⟨265,[],yK⟩,⟨120,[],vC⟩,⟨58,[],vC⟩,⟨283,[],vE⟩,⟨269,[],vE⟩,⟨69,[],GH⟩]
theorem e2:a7 Tryz.prog T2:=by
 intro e he
 simp only[T2,List.mem_cons,List.not_mem_nil,or_false]at he
 rcases he with rfl|rfl|rfl|rfl|rfl|rfl
 ·exact YR
 ·exact a73
 ·exact m61
 ·exact a8B
 ·exact a89
 ·exact a6Y (aO (a7.nil _))
theorem t2:bK Tryz.prog (a9 T2):=aO e2
end
section
def vD:aM:=fun args h=>
 match args,h with
 |[.c (.int .i64 n)],[]=>some (.c (.bool (fok n)),[],[])
 |_,_=>none
def fW (lo hi:Int):aM:=fun args h=>
 match args,h with
 |[.c (.int .i64 n)],[]=>some (.c (.bool (bet n lo hi)),[],[])
 |_,_=>none
def BT:aM:=fun args h=>
 match args,h with
 |[.c (.int .i64 n),.c (.int .i64 m)],[]=>some (.c (.int .i64 ((n+m)%31)),[],[fok n,fok m])
 |_,_=>none
def xE:aM:=fun args h=>
 match args,h with
 |[.c (.int .i64 n),.c (.int .i64 m)],[]=>some (.c (.int .i64 ((n*m)%31)),[],[fok n,fok m])
 |_,_=>none
def x8:aM:=fun args h=>
 match args,h with
 |[.c (.int .i64 n),.c (.int .i64 m)],[]=>some (.c (.int .i64 ((n-m)%31)),[],[fok n,fok m])
 |_,_=>none
theorem BE {n m:Int} (hn:fok n=true) (hm:fok m=true):IntKind.i64.wrap (n+m)=n+m:=by
 obtain⟨a,b⟩:=eK.1 hn;obtain⟨c,d⟩:=eK.1 hm
 exact cR (by omega) (by omega)
theorem L4 {n m:Int} (hn:fok n=true) (hm:fok m=true):IntKind.i64.wrap (n-m)=n-m:=by
 obtain⟨a,b⟩:=eK.1 hn;obtain⟨c,d⟩:=eK.1 hm
 exact cR (by omega) (by omega)
theorem kX {n m:Int} (hn:fok n=true) (hm:fok m=true):0≤n*m∧n*m≤900:=by
 obtain⟨a,b⟩:=eK.1 hn;obtain⟨c,d⟩:=eK.1 hm
 refine⟨Int.mul_nonneg a c, ?_⟩
 have:=Int.mul_le_mul b d c (by omega:(0:Int)≤30)
 omega
theorem nZ {n m:Int} (hn:fok n=true) (hm:fok m=true):IntKind.i64.wrap (n*m)=n*m:=by
 obtain⟨a,b⟩:=kX hn hm
 exact cR (by omega) (by omega)
theorem a74:aQ Tryz.prog 215 vD:=by
 intro args h res h' o he ho
 unfold vD at he
 split at he
 ·rename_i n
  simp only[Option.some.injEq,Prod.mk.injEq]at he
  obtain⟨rfl,rfl,rfl⟩:=he
  have e:aE tt (a9 T2) [] 100 Tryz.f215 [.c (.int .i64 n)] [] []=some ⟨.c (.bool (fok n)),[],true,[]⟩:=by kernel_rfl
  exact mo t2 e rfl
 ·cases he
theorem a6Q:aQ Tryz.prog 155 vD:=by
 intro args h res h' o he ho
 unfold vD at he
 split at he
 ·rename_i n
  simp only[Option.some.injEq,Prod.mk.injEq]at he
  obtain⟨rfl,rfl,rfl⟩:=he
  have e:aE tt (a9 T2) [] 100 Tryz.f155 [.c (.int .i64 n)] [] []=some ⟨.c (.bool (fok n)),[],true,[]⟩:=by kernel_rfl
  exact mo t2 e rfl
 ·cases he
theorem m68:aQ Tryz.prog 87 (fW 1 2):=by
 intro args h res h' o he ho
 unfold fW at he
 split at he
 ·rename_i n
  simp only[Option.some.injEq,Prod.mk.injEq]at he
  obtain⟨rfl,rfl,rfl⟩:=he
  have e:aE tt (a9 T2) [] 100 Tryz.f87 [.c (.int .i64 n)] [] []=some ⟨.c (.bool (bet n 1 2)),[],true,[]⟩:=by kernel_rfl
  exact mo t2 e rfl
 ·cases he
theorem m79:aQ Tryz.prog 77 (fW 0 7):=by
 intro args h res h' o he ho
 unfold fW at he
 split at he
 ·rename_i n
  simp only[Option.some.injEq,Prod.mk.injEq]at he
  obtain⟨rfl,rfl,rfl⟩:=he
  have e:aE tt (a9 T2) [] 100 Tryz.f77 [.c (.int .i64 n)] [] []=some ⟨.c (.bool (bet n 0 7)),[],true,[]⟩:=by kernel_rfl
  exact mo t2 e rfl
 ·cases he
theorem m69:aQ Tryz.prog 177 (fW 1 99):=by
 intro args h res h' o he ho
 unfold fW at he
 split at he
 ·rename_i n
  simp only[Option.some.injEq,Prod.mk.injEq]at he
  obtain⟨rfl,rfl,rfl⟩:=he
  have e:aE tt (a9 T2) [] 100 Tryz.f177 [.c (.int .i64 n)] [] []=some ⟨.c (.bool (bet n 1 99)),[],true,[]⟩:=by kernel_rfl
  exact mo t2 e rfl
 ·cases he
theorem m54:aQ Tryz.prog 85 (fW 1 2):=by
 intro args h res h' o he ho
 unfold fW at he
 split at he
 ·rename_i n
  simp only[Option.some.injEq,Prod.mk.injEq]at he
  obtain⟨rfl,rfl,rfl⟩:=he
  have e:aE tt (a9 T2) [] 100 Tryz.f85 [.c (.int .i64 n)] [] []=some ⟨.c (.bool (bet n 1 2)),[],true,[]⟩:=by kernel_rfl
  exact mo t2 e rfl
 ·cases he
theorem a7R:aQ Tryz.prog 231 BT:=by
 intro args h res h' o he ho
 unfold BT at he
 split at he
 ·rename_i n m
  simp only[Option.some.injEq,Prod.mk.injEq]at he
  obtain⟨rfl,rfl,rfl⟩:=he
  have e:aE tt (a9 T2) [] 100 Tryz.f231 [.c (.int .i64 n),.c (.int .i64 m)] [] []=some ⟨.c (.int .i64 ((IntKind.i64.wrap (n+m))%31)),[],true,[]⟩:=by kernel_rfl
  rw[BE (ho (fok n) (by simp)) (ho (fok m) (by simp))]at e
  exact mo t2 e rfl
 ·cases he
theorem a7S:aQ Tryz.prog 232 xE:=by
 intro args h res h' o he ho
 unfold xE at he
 split at he
 ·rename_i n m
  simp only[Option.some.injEq,Prod.mk.injEq]at he
  obtain⟨rfl,rfl,rfl⟩:=he
  have e:aE tt (a9 T2) [] 100 Tryz.f232 [.c (.int .i64 n),.c (.int .i64 m)] [] []=some ⟨.c (.int .i64 ((IntKind.i64.wrap (n*m))%31)),[],true,[]⟩:=by kernel_rfl
  rw[nZ (ho (fok n) (by simp)) (ho (fok m) (by simp))]at e
  exact mo t2 e rfl
 ·cases he
theorem a84:aQ Tryz.prog 260 x8:=by
 intro args h res h' o he ho
 unfold x8 at he
 split at he
 ·rename_i n m
  simp only[Option.some.injEq,Prod.mk.injEq]at he
  obtain⟨rfl,rfl,rfl⟩:=he
  have e:aE tt (a9 T2) [] 100 Tryz.f260 [.c (.int .i64 n),.c (.int .i64 m)] [] []=some ⟨.c (.int .i64 ((IntKind.i64.wrap (n-m))%31)),[],true,[]⟩:=by kernel_rfl
  rw[L4 (ho (fok n) (by simp)) (ho (fok m) (by simp))]at e
  exact mo t2 e rfl
 ·cases he
def T3:List aZ:=[⟨215,[],vD⟩,⟨155,[],vD⟩,⟨87,[],fW 1 2⟩,⟨77,[],fW 0 7⟩,⟨177,[],fW 1 99⟩,⟨85,[],fW 1 2⟩,⟨231,[],BT⟩,⟨232,[],xE⟩,⟨260,[],x8⟩]++T2
theorem e3:a7 Tryz.prog T3:=by
 refine a7.append ?_ e2
 intro e he
 simp only[List.mem_cons,List.not_mem_nil,or_false]at he
 rcases he with rfl|rfl|rfl|rfl|rfl|rfl|rfl|rfl|rfl
 ·exact a74
 ·exact a6Q
 ·exact m68
 ·exact m79
 ·exact m69
 ·exact m54
 ·exact a7R
 ·exact a7S
 ·exact a84
theorem t3:bK Tryz.prog (a9 T3):=aO e3
end
section
def xI:aM:=fun args h=>
 match args,h with
 |[.agg [.int .i64 a,.int .i64 b,.int .i64 c,.int .i64 d],.agg [.int .i64 x,.int .i64 y,.int .i64 z,.int .i64 t]],[]=>
  some (.agg [.int .i64 ((a+x)%31),.int .i64 ((b+y)%31),.int .i64 ((c+z)%31),.int .i64 ((d+t)%31)],[],[fok a,fok x,fok b,fok y,fok c,fok z,fok d,fok t])
 |_,_=>none
def rW:aM:=fun args h=>
 match args,h with
 |[.agg [.int .i64 a,.int .i64 b,.int .i64 c,.int .i64 d],.c (.int .i64 x)],[]=>
  some (.agg [.int .i64 ((a*x)%31),.int .i64 ((b*x)%31),.int .i64 ((c*x)%31),.int .i64 ((d*x)%31)],[],[fok a,fok x,fok b,fok x,fok c,fok x,fok d,fok x])
 |_,_=>none
def CS (a b c d x y z t:Int):Int:=((((0+(a*x)%31)%31+(b*y)%31)%31+(c*z)%31)%31+(d*t)%31)%31
def C9:aM:=fun args h=>
 match args,h with
 |[.agg [.int .i64 a,.int .i64 b,.int .i64 c,.int .i64 d],.agg [.int .i64 x,.int .i64 y,.int .i64 z,.int .i64 t]],[]=>
  some (.c (.int .i64 (CS a b c d x y z t)),[],[fok a,fok x,fok b,fok y,fok c,fok z,fok d,fok t])
 |_,_=>none
def xH:aM:=fun args h=>
 match args,h with
 |[.agg [.int .i64 a,.int .i64 b,.int .i64 c,.int .i64 d]],[]=>some (.c (.sl 0 0 4 1 none),[.live (.ints .i64 [a,b,c,d])],[])
 |_,_=>none
theorem c9 (n:Int):fok (n%31)=true:=eK.2 ⟨by omega,by omega⟩
theorem a7Q:aQ Tryz.prog 253 xI:=by
 intro args h res h' o he ho
 unfold xI at he
 split at he
 ·rename_i a b c d x y z t
  simp only[Option.some.injEq,Prod.mk.injEq]at he
  obtain⟨rfl,rfl,rfl⟩:=he
  have e:aE tt (a9 T3) [] 100 Tryz.f253 [.agg [.int .i64 a,.int .i64 b,.int .i64 c,.int .i64 d],.agg [.int .i64 x,.int .i64 y,.int .i64 z,.int .i64 t]] [] []=some ⟨.agg [.int .i64 ((a+x)%31),.int .i64 ((b+y)%31),.int .i64 ((c+z)%31),.int .i64 ((d+t)%31)],[],(fok a&&(fok x&&(fok b&&(fok y&&(fok c&&(fok z&&(fok d&&(fok t&&true)))))))),[]⟩:=by kernel_rfl
  simp only[List.mem_cons,List.not_mem_nil,or_false,forall_eq_or_imp,forall_eq]at ho
  exact mo t3 e (by simp[ho])
 ·cases he
theorem a83:aQ Tryz.prog 259 rW:=by
 intro args h res h' o he ho
 unfold rW at he
 split at he
 ·rename_i a b c d x
  simp only[Option.some.injEq,Prod.mk.injEq]at he
  obtain⟨rfl,rfl,rfl⟩:=he
  have e:aE tt (a9 T3) [] 100 Tryz.f259 [.agg [.int .i64 a,.int .i64 b,.int .i64 c,.int .i64 d],.c (.int .i64 x)] [] []=some ⟨.agg [.int .i64 ((a*x)%31),.int .i64 ((b*x)%31),.int .i64 ((c*x)%31),.int .i64 ((d*x)%31)],[],(fok a&&(fok x&&(fok b&&(fok x&&(fok c&&(fok x&&(fok d&&(fok x&&true)))))))),[]⟩:=by kernel_rfl
  simp only[List.mem_cons,List.not_mem_nil,or_false,forall_eq_or_imp,forall_eq]at ho
  exact mo t3 e (by simp[ho])
 ·cases he
theorem a78:aQ Tryz.prog 219 C9:=by
 intro args h res h' o he ho
 unfold C9 at he
 split at he
 ·rename_i a b c d x y z t
  simp only[Option.some.injEq,Prod.mk.injEq]at he
  obtain⟨rfl,rfl,rfl⟩:=he
  have e:aE tt (a9 T3) [] 100 Tryz.f219 [.agg [.int .i64 a,.int .i64 b,.int .i64 c,.int .i64 d],.agg [.int .i64 x,.int .i64 y,.int .i64 z,.int .i64 t]] [] []=some ⟨.c (.int .i64 (CS a b c d x y z t)),[],(fok a&&(fok x&&(fok ((a*x)%31)&&(fok b&&(fok y&&(fok ((0+(a*x)%31)%31)&&(fok ((b*y)%31)&&(fok c&&(fok z&&(fok (((0+(a*x)%31)%31+(b*y)%31)%31)&&(fok ((c*z)%31)&&(fok d&&(fok t&&(fok ((((0+(a*x)%31)%31+(b*y)%31)%31+(c*z)%31)%31)&&(fok ((d*t)%31)&&true))))))))))))))),[]⟩:=by kernel_rfl
  simp only[List.mem_cons,List.not_mem_nil,or_false,forall_eq_or_imp,forall_eq]at ho
  exact mo t3 e (by simp[ho,c9])
 ·cases he
theorem a7J:aQ Tryz.prog 222 xH:=by
 intro args h res h' o he ho
 unfold xH at he
 split at he
 ·rename_i a b c d
  simp only[Option.some.injEq,Prod.mk.injEq]at he
  obtain⟨rfl,rfl,rfl⟩:=he
  have e:aE tt (a9 T3) [] 100 Tryz.f222 [.agg [.int .i64 a,.int .i64 b,.int .i64 c,.int .i64 d]] [] []=some ⟨.c (.sl 0 0 4 1 none),[.live (.ints .i64 [a,b,c,d])],true,[]⟩:=by kernel_rfl
  exact mo t3 e rfl
 ·cases he
end
end Go.Proofs.YtdnfojanjejdgaaGreat.Am
