/- DERIVED. Part 2 of the proof: Am16, Am17, Am18, Am19, Am20, Am21, Am22, Am23, Am24, Am25, Am26, Tab, B0, C1, C2, C3. No statement of the program is proved here. -/
import Derived.Test.YtdnfojanjejdgaaGreatX01
import Derived.LoopN
import Derived.Test.YtdnfojanjejdgaaGreatProg
set_option linter.unusedSimpArgs false
set_option linter.unusedVariables false
set_option linter.unusedSectionVars false
set_option linter.defProp false
namespace Go.Proofs.YtdnfojanjejdgaaGreat.Am
section
variable {X : Nat → Prop}
theorem LW {s s':St} {l:List Tmp} (h: ∀t∈l,s.tmps.getD t (.tup [])=s'.tmps.getD t (.tup [])) {x:Operand} (hx: ∀t,x=.tmp t→t∈l):s.ev x=s'.ev x:=by
 cases x with
 |tmp t=>exact h t (hx t rfl)
 |const v=>rfl
 |global g=>rfl
 |func f=>rfl
set_option maxHeartbeats 1000000 in
theorem H9 (tt:Tab) (ct:CT) (get:Get) (base:Nat) {ev ev':Operand→AV} (op:Op) (h: ∀x∈op.operands,ev x=ev' x):aop tt ct get base ev op=aop tt ct get base ev' op:=by
 have pairs: ∀ps:Array (Nat×Operand),(∀x∈(ps.toList.map (·.2)).toArray,ev x=ev' x)→(ps.toList.map fun(i,x)=>(i,ev x))=ps.toList.map fun(i,x)=>(i,ev' x):=fun ps hp=>
  List.map_congr_left fun p hm=>by
   obtain⟨i,x⟩:=p
   simp only[hp x (by simp only[List.mem_toArray];exact List.mem_map.2 ⟨(i,x),hm,rfl⟩)]
 have opt: ∀(o:Option Operand),(∀x∈o.toArray,ev x=ev' x)→o.map ev=o.map ev':=fun o ho=>by
  cases o with
  |none=>rfl
  |some x=>simp[ho x (by simp)]
 have arr: ∀(l:Array Operand),(∀x∈l,ev x=ev' x)→l.toList.map ev=l.toList.map ev':=fun l hl=>List.map_congr_left fun x hx=>hl x (by simpa using hx)
 cases op<;>simp only[Op.operands]at h<;>simp only[aop]
 case build t ps=>rw[pairs ps h]
 case buildSlice t n ps=>rw[pairs ps h]
 case makeFunc fn first caps=>
  cases fn<;>simp only[aop]
  rw[arr caps fun x hx=>h x (by simp[hx])]
 case slice t x lo hi mx=>
  rw[h x (by simp),opt lo fun x hx=>h x (by simp at hx⊢;simp[hx]),opt hi fun x hx=>h x (by simp at hx⊢;simp[hx]),opt mx fun x hx=>h x (by simp at hx⊢;simp[hx])]
 case call c=>
  obtain⟨callee,args,argTypes⟩:=c
  simp only[Call.operands]at h
  cases callee with
  |invoke r s=>rfl
  |value f=>
   simp only[aop]
   rw[h f (by simp),arr args fun x hx=>h x (by simp[hx])]
  |builtin b=>
   simp only[aop]
   have ha: ∀x∈args.toList,ev x=ev' x:=fun x hx=>h x (by simpa using hx)
   split
   ·rename_i x t h1 h2;rw[ha x (by simp[h1])]
   ·rename_i s x t u h1 h2;rw[ha s (by simp[h1]),ha x (by simp[h1])]
   ·rename_i x t h1 h2;rw[ha x (by simp[h1])]
   ·rename_i x y t u h1 h2;rw[ha x (by simp[h1]),ha y (by simp[h1])]
   ·rename_i l x y h1;rw[ha x (by simp[h1]),ha y (by simp[h1])]
   ·rename_i l x y h1;rw[ha x (by simp[h1]),ha y (by simp[h1])]
   ·rfl
 all_goals first|rfl|(simp at h;simp[h])
theorem wY {tmps:List AV} {dst:Option Nat} {v:AV} {t:Nat} (h:dst≠some t):(rA tmps dst v).getD t (.tup [])=tmps.getD t (.tup []):=by
 cases dst with
 |none=>rfl
 |some d=>
  have: ¬d=t:=fun e=>h (by rw[e])
  simp[rA,List.getD_eq_getElem?_getD,List.getElem?_set,this]
theorem eI {sets:List (Nat×aV)} {h:List aV} {id:Nat} (hn:id∉sets.map (·.1)):Heap.get (cZ h sets) id=Heap.get h id:=
 dN sets h id fun s hs=>hn (List.mem_map.2 ⟨(id,s),hs,rfl⟩)
theorem n9 {α β:Type} {f g:α→List β}: ∀ {l:List α},(∀x∈l,f x=g x)→l.flatMap f=l.flatMap g
 |[],_=>rfl
 |x::l,h=>by
  simp only[List.flatMap_cons]
  rw[h x List.mem_cons_self,n9 fun y hy=>h y (List.mem_cons_of_mem _ hy)]
theorem nY {tt:Tab} {ct:CT} {ops:Array Oper} {s s':St} {o:Oper} {base:Nat} {dec:Option Bool} {fp:List Nat} {e:Eff} (hs:iF tt ct ops s o base dec=some (fp,e))
  (ht: ∀t∈o.looksAt ops,s'.tmps.getD t (.tup [])=s.tmps.getD t (.tup [])) (hh: ∀id∈fp,Heap.get s'.heap id=Heap.get s.heap id):iF tt ct ops s' o base dec=some (fp,e):=by
 have hfp:fp=fpO o.op s.heap ((cR o).map s.ev):=by
  unfold iF at hs
  dsimp only at hs
  split at hs
  ·obtain⟨e',h1,h2⟩:=Option.map_eq_some_iff.1 hs;injection h2 with h2 h3;exact h2.symm
  ·split at hs
   ·obtain⟨e',h1,h2⟩:=Option.map_eq_some_iff.1 hs;injection h2 with h2 h3;exact h2.symm
   ·cases hs
  ·split at hs
   ·injection hs with hs;injection hs with h1 h2;exact h1.symm
   ·injection hs with hs;injection hs with h1 h2;exact h1.symm
   ·cases hs
  ·cases hs
 have hev: ∀x∈cR o,s'.ev x=s.ev x:=fun x hx=>LW ht fun t e=>by
  subst e
  simp only[Oper.looksAt,List.mem_append,List.mem_filterMap]
  exact .inl ⟨.tmp t,hx,rfl⟩
 have hmap:(cR o).map s'.ev=(cR o).map s.ev:=List.map_congr_left hev
 have hfp':fpO o.op s'.heap ((cR o).map s'.ev)=fp:=by
  rw[hmap,hfp]
  rw[hfp]at hh
  generalize o.op=op at hh
  have gen:(∀id∈M0 (sV op) s.heap ((cR o).map s.ev),Heap.get s'.heap id=Heap.get s.heap id)→M0 (sV op) s'.heap ((cR o).map s.ev)=M0 (sV op) s.heap ((cR o).map s.ev):=fun hh=>by
   unfold M0 at hh⊢
   dsimp only at hh⊢
   congr 1
   cases hd:sV op with
   |false=>rfl
   |true=>
   refine n9 fun id hid=> ?_
   rw[hh id (List.mem_append_left _ hid)]
  cases op<;>first|rfl|exact gen hh
 have honly:only s'.heap fp=only s.heap fp:=by
  funext id
  unfold only
  cases hf:fp.elem id with
  |false=>rfl
  |true=>exact hh id (by simpa using hf)
 have haop:aop tt ct (only s'.heap fp) base s'.ev o.op=aop tt ct (only s.heap fp) base s.ev o.op:=by
  rw[honly]
  exact H9 tt ct _ base o.op fun x hx=>hev x (by simpa [cR]using hx)
 have hg: ∀j want,o.guard=some (j,want)→vP ops s'.tmps j=vP ops s.tmps j:=fun j want hgd=>by
  unfold vP
  split
  ·rename_i d hd
   refine ht d ?_
   simp only[Oper.looksAt,List.mem_append,hgd]
   exact .inr (by rw[hd];simp)
  ·rfl
 unfold iF at hs⊢
 dsimp only at hs⊢
 rw[hfp',haop]
 rw[←hfp]at hs
 cases hgd:o.guard with
 |none=>rw[hgd]at hs;cases dec<;>exact hs
 |some jw=>
  obtain⟨j,want⟩:=jw
  rw[hgd]at hs
  have e1:=hg j want hgd
  cases dec with
  |none=>exact hs
  |some b=>cases b<;>(dsimp only at hs⊢;rw[e1];exact hs)
theorem lV: ∀(a:List (Nat×aV)) (h:List aV) (i:Nat) (s:aV),i∉a.map (·.1)→cZ (h.set i s) a=(cZ h a).set i s
 |[],h,i,s,_=>rfl
 |(j,t)::a,h,i,s,hn=>by
  simp only[List.map_cons,List.mem_cons,not_or]at hn
  simp only[cZ]
  rw[List.set_comm _ _ hn.1,lV a _ i s hn.2]
theorem xE: ∀(a b:List (Nat×aV)) (h:List aV),(∀x∈a.map (·.1),x∉b.map (·.1))→cZ (cZ h a) b=cZ (cZ h b) a
 |[],b,h,_=>rfl
 |(i,s)::a,b,h,hn=>by
  simp only[cZ]
  rw[xE a b (h.set i s) fun x hx=>hn x (by simp only[List.map_cons];exact List.mem_cons_of_mem _ hx),lV b h i s (hn i (by simp))]
theorem HX {tmps:List AV} {x y:Option Nat} (v u:AV) (h: ∀d,x=some d→y≠some d):rA (rA tmps x v) y u=rA (rA tmps y u) x v:=by
 cases x with
 |none=>rfl
 |some d=>
  cases y with
  |none=>rfl
  |some e=>
   have hne:d≠e:=fun he=>h d rfl (by rw[he])
   simp only[rA]
   rw[List.set_comm _ _ hne]
theorem kC {a b:List Nat} (h:GE a b=false): ∀x∈a,x∉b:=by
 intro x hx hb
 have:=List.any_eq_false.1 h x hx
 exact this (by simpa using hb)
theorem EI {ops:Array Oper} {x y:Rec} (h:qH ops x y=true):
  x.o.apart ops y.o=true∧(∀i∈x.writes,i∉y.fp)∧(∀i∈y.writes,i∉x.fp)∧ ∀i∈x.writes,i∉y.writes:=by
 simp only[qH,Bool.and_eq_true,rpS,Bool.not_eq_true']at h
 obtain⟨⟨⟨h1,h2⟩,h3⟩,h4⟩:=h
 exact⟨h1,kC h2,kC h3,kC h4⟩
theorem mO: ∀ {n b i:Nat},i<n→b+i∈cM n b
 |0,b,i,h=>absurd h (by omega)
 |n+1,b,0,_=>by simp[cM]
 |n+1,b,i+1,h=>by
  have:=mO (n:=n) (b:=b+1) (i:=i) (by omega)
  rw[show b+1+i=b+(i+1)from by omega]at this
  exact List.mem_cons_of_mem _ this
section
variable {tt : Tab} {ct : CT} {ops : Array Oper}
theorem m6.swap {x y:Rec} {rs:List Rec} {s s':St} (hi:qH ops x y=true) (h:m6 tt ct ops (x::y::rs) s s'):m6 tt ct ops (y::x::rs) s s':=by
 obtain⟨hap,h1,h2,h3⟩:=EI hi
 obtain⟨a1,a2,a3⟩:=Oper.apart_spec hap
 cases h with
 |cons _ _ _ _ hsx hox hbx h=>
 cases h with
 |cons _ _ _ _ hsy hoy hby h=>
 have wx: ∀i∈x.eff.sets.map (·.1),i∈x.writes:=fun i hi=>List.mem_append_left _ hi
 have wy: ∀i∈y.eff.sets.map (·.1),i∈y.writes:=fun i hi=>List.mem_append_left _ hi
 have bx: ∀k,k<slots x.o.op→x.base+k∈x.writes:=fun k hk=>List.mem_append_right _ (mO hk)
 have b_y: ∀k,k<slots y.o.op→y.base+k∈y.writes:=fun k hk=>List.mem_append_right _ (mO hk)
 have hy0:iF tt ct ops s y.o y.base y.dec=some (y.fp,y.eff):=by
  refine nY hsy (fun t ht=> ?_) (fun id hid=> ?_)
  ·exact(wY (fun e=>a1 t e ht)).symm
  ·exact(eI (fun hm=>h1 id (wx id hm) hid)).symm
 have hx1:iF tt ct ops (dK s y.o.dst y.eff) x.o x.base x.dec=some (x.fp,x.eff):=by
  refine nY hsx (fun t ht=> ?_) (fun id hid=> ?_)
  ·exact wY (fun e=>a3 t e ht)
  ·exact eI (fun hm=>h2 id (wy id hm) hid)
 refine .cons y _ s s' hy0 hoy (fun k hk=> ?_) (.cons x rs _ s' hx1 hox (fun k hk=> ?_) ?_)
 ·obtain⟨c1,c2⟩:=hby k hk
  refine⟨?_,by simpa [dK,eJ]using c2⟩
  rw[←c1]
  exact(eI (fun hm=>h3 _ (wx _ hm) (b_y k hk))).symm
 ·obtain⟨c1,c2⟩:=hbx k hk
  refine⟨?_,by simpa [dK,eJ]using c2⟩
  rw[←c1]
  exact eI (fun hm=>h3 _ (bx k hk) (wy _ hm))
 ·have e:dK (dK s y.o.dst y.eff) x.o.dst x.eff=dK (dK s x.o.dst x.eff) y.o.dst y.eff:=by
   simp only[dK]
   rw[HX _ _ (fun d hd e=>a2 d e hd),xE _ _ _ fun i hi hj=>h3 i (wx i hj) (wy i hi)]
  rw[e];exact h
theorem m6.front {r:Rec}: ∀ {l1 l2:List Rec} {s s':St},(∀x∈l1,qH ops x r=true)→m6 tt ct ops (l1++r::l2) s s'→m6 tt ct ops (r::(l1++l2)) s s'
 |[],l2,s,s',_,h=>h
 |x::l1,l2,s,s',hi,h=>by
  cases h with
  |cons _ _ _ _ hs ho hb h=>
   exact m6.swap (hi x List.mem_cons_self) (.cons x _ s s' hs ho hb (m6.front (fun y hy=>hi y (List.mem_cons_of_mem _ hy)) h))
end
theorem u7 (ms:List Nat) (x:Nat): ∀(l:List Edge) (s:Nat),(l.foldl (fun s e=>bif Region.binds .any e then s|||(2^e.on|||ms.getD e.on 0)else s) s).testBit x=true→
  s.testBit x=true∨ ∃e∈l,Region.binds .any e=true∧(x=e.on∨(ms.getD e.on 0).testBit x=true)
 |[],s,h=> .inl h
 |e::l,s,h=>by
  simp only[List.foldl_cons]at h
  rcases u7 ms x l _ h with h|⟨e',h1,h2,h3⟩
  ·cases hb:Region.binds .any e with
   |false=>rw[hb]at h;exact .inl h
   |true=>
    rw[hb]at h
    simp only[cond_true,Nat.testBit_or,Bool.or_eq_true,Nat.testBit_two_pow,decide_eq_true_eq]at h
    rcases h with h|h|h
    ·exact .inl h
    ·exact .inr ⟨e,List.mem_cons_self,hb,.inl h.symm⟩
    ·exact .inr ⟨e,List.mem_cons_self,hb,.inr h⟩
  ·exact .inr ⟨e',List.mem_cons_of_mem _ h1,h2,h3⟩
theorem qK (ms:List Nat): ∀ {l:List Oper} {i:Nat},u9 ms l i=true→ ∀(k:Nat) (o:Oper),l[k]? =some o→
  (∀x,(ms.getD (i+k) 0).testBit x=true→ ∃e∈o.after.toList,Region.binds .any e=true∧(x=e.on∨(ms.getD e.on 0).testBit x=true))∧ ∀e∈o.after.toList,Region.binds .any e=true→e.on<i+k
 |[],i,_,k,o,h=>by simp at h
 |x::l,i,hb,k,o,h=>by
  simp only[u9,Bool.and_eq_true,rpS,beq_iff_eq,List.all_eq_true,Bool.or_eq_true,Bool.not_eq_true']at hb
  obtain⟨⟨h1,h2⟩,h3⟩:=hb
  cases k with
  |zero=>
   simp at h;subst h
   refine⟨fun y hy=> ?_,fun e he hbd=> ?_⟩
   ·rw[Nat.add_zero,h1]at hy
    rcases u7 ms y _ _ hy with h|h
    ·simp at h
    ·exact h
   ·rcases h2 e he with h|h
    ·rw[hbd]at h;cases h
    ·simpa [Nat.blt_eq]using h
  |succ k=>
   have:=qK ms h3 k o (by simpa using h)
   rwa[show i+1+k=i+(k+1)from by omega]at this
theorem lP {ops:Array Oper} {ms:List Nat}: ∀ {rs:List Rec},nE ops ms rs=true→rs.Pairwise fun x y=>(ms.getD y.i 0).testBit x.i=true∨qH ops x y=true
 |[],_=> .nil
 |x::r,h=>by
  simp only[nE,Bool.and_eq_true,rpS,List.all_eq_true,Bool.or_eq_true]at h
  exact .cons (fun y hy=>h.1 y hy) (lP h.2)
end
section
variable {X : Nat → Prop}
theorem mJ {md:Region.Mode} {ops:Array Oper} {listed:Array Bool} {i:Nat}:i∈Region.ready md ops listed↔listed.getD i true=false∧ ∃o,ops[i]? =some o∧ ∀e∈o.after,Region.binds md e=true→listed.getD e.on false=true:=by
 unfold Region.ready
 simp only[List.mem_filter,List.mem_range,Bool.and_eq_true,rpS,Bool.not_eq_true']
 constructor
 ·rintro⟨h1,h2,h3⟩
  refine⟨h2,ops[i],by simp[h1],fun e he hb=> ?_⟩
  simp[h1]at h3
  obtain⟨j,hj,rfl⟩:=Array.getElem_of_mem he
  have:=h3 j hj
  rcases this with h|h
  ·rw[hb]at h;cases h
  ·simpa using h
 ·rintro⟨h1,o,h2,h3⟩
  have hlt:i<ops.size:=(Array.getElem?_eq_some_iff.1 h2).1
  refine⟨hlt,h1, ?_⟩
  simp only[h2,Option.map_some,Option.getD_some,Array.all_eq_true]
  intro j hj
  cases hb:Region.binds md o.after[j]with
  |false=>rfl
  |true=>simpa using h3 _ (Array.getElem_mem hj) hb
theorem oV {listed:Array Bool} {i j:Nat} (h:i<listed.size) (d:Bool):(listed.setIfInBounds i true).getD j d=if j=i then true else listed.getD j d:=by
 by_cases e:j=i
 ·subst e;simp[Array.getD,h]
 ·have: ¬i=j:=fun x=>e x.symm
  simp[Array.getD_eq_getD_getElem?,Array.getElem?_setIfInBounds_ne this,e]
theorem tO {listed:Array Bool} {i:Nat} (h:i<listed.size) (d d':Bool):listed.getD i d=listed.getD i d':=by
 simp[Array.getD,h]
section
variable {P : Program} {tt : Tab} (hT : iK P tt) {ct : CT} (hct : bL P ct) {w0 : World} {ρ0 : Rho} {ops : Array Oper} {ro : Option Nat} {n : Nat}
include hT hct in
theorem H8 {Q:Exit→Act→World→Prop} {s':St} (hQ: ∀a w ρ,Rel X w0 ρ0 s' ρ a w→Q .normal a w) {ms:List Nat} (hms:u9 ms ops.toList 0=true):
  ∀ {fuel:Nat} {rs:List Rec} {s:St} {ρ:Rho} {a:Act} {w:World} {listed:Array Bool},rs.length=fuel→Rel X w0 ρ0 s ρ a w→m6 tt ct ops rs s s'→
  (∀r∈rs,ops[r.i]? =some r.o∧listed.getD r.i true=false)→(∀j,j<ops.size→listed.getD j true=false→ ∃r∈rs,r.i=j)→
  (∀j,j<ops.size→listed.getD j true=true→ ∀x,(ms.getD j 0).testBit x=true→listed.getD x true=true)→
  rs.Pairwise (fun x y=>x.i<y.i)→rs.Pairwise (fun x y=>(ms.getD y.i 0).testBit x.i=true∨qH ops x y=true)→listed.size=ops.size→
  wpAnyIn (FW ro) n P .any ops Q fuel listed a w:=by
 have spec: ∀i o,ops[i]? =some o→(∀x,(ms.getD i 0).testBit x=true→ ∃e∈o.after.toList,Region.binds .any e=true∧(x=e.on∨(ms.getD e.on 0).testBit x=true))∧
   ∀e∈o.after.toList,Region.binds .any e=true→e.on<i:=by
  intro i o h
  have:=qK ms hms i o (by simpa using h)
  rwa[Nat.zero_add]at this
 intro fuel
 induction fuel with
 |zero=>
  intro rs s ρ a w listed hlen r hr hi hl hc hs hp hsz
  have:rs=[]:=List.eq_nil_of_length_eq_zero hlen
  subst this
  cases hr
  refine⟨?_,hQ _ _ _ r⟩
  apply List.eq_nil_iff_forall_not_mem.2
  intro j hj
  obtain⟨h1,o,h2,_⟩:=mJ.1 hj
  obtain⟨r,hr,_⟩:=hl j (Array.getElem?_eq_some_iff.1 h2).1 h1
  cases hr
 |succ fuel ih=>
  intro rs s ρ a w listed hlen r hr hi hl hc hs hp hsz
  refine⟨fun hnil=> ?_,fun i hiR=> ?_⟩
  ·
   cases rs with
   |nil=>simp at hlen
   |cons x rs=>
    exfalso
    obtain⟨hx1,hx2⟩:=hi x List.mem_cons_self
    have:x.i∈Region.ready .any ops listed:=by
     refine mJ.2 ⟨hx2,x.o,hx1,fun e he hb=> ?_⟩
     have hlt:=(spec x.i x.o hx1).2 e (by simpa using he) hb
     have hxs:x.i<ops.size:=(Array.getElem?_eq_some_iff.1 hx1).1
     cases hg:listed.getD e.on true with
     |true=>rw[tO (by omega) false true];exact hg
     |false=>
      obtain⟨y,hy,he'⟩:=hl e.on (by omega) hg
      rcases List.mem_cons.1 hy with h|h
      ·subst h;omega
      ·have:=(List.pairwise_cons.1 hs).1 y h;omega
    rw[hnil]at this;cases this
  ·obtain⟨h1,o,h2,h3⟩:=mJ.1 hiR
   have hisz:i<ops.size:=(Array.getElem?_eq_some_iff.1 h2).1
   obtain⟨y,hy,hyi⟩:=hl i hisz h1
   subst hyi
   obtain⟨l1,l2,hsplit⟩:=List.append_of_mem hy
   subst hsplit
   have ho:o=y.o:=by have:=(hi y hy).1;rw[h2]at this;injection this
   subst ho
   have closed: ∀x,(ms.getD y.i 0).testBit x=true→listed.getD x true=true:=by
    intro x hx
    obtain⟨e,he,hb,hxe⟩:=(spec _ _ h2).1 x hx
    have hle:=h3 e (by simpa using he) hb
    have heon:e.on<ops.size:=by have:=(spec _ _ h2).2 e he hb;omega
    rw[tO (by omega) false true]at hle
    rcases hxe with rfl|hxe
    ·exact hle
    ·exact hc e.on heon hle x hxe
   have hind: ∀x∈l1,qH ops x y=true:=by
    intro x hx
    have:=(List.pairwise_append.1 hp).2.2 x hx y List.mem_cons_self
    rcases this with h|h
    ·have h4:=closed _ h
     have h5:=(hi x (List.mem_append_left _ hx)).2
     rw[h4]at h5;cases h5
    ·exact h
   have hfront:=m6.front hind hr
   cases hfront with
   |cons _ _ _ _ hs1 ho1 hb1 hrest=>
    refine v5 hT hct r h2 hs1 ho1 hb1 fun a' w' ρ' r'=> ?_
    have hne: ∀x∈l1++l2,x.i≠y.i:=by
     intro x hx
     have hp1:=List.pairwise_append.1 hs
     rcases List.mem_append.1 hx with h|h
     ·have:=hp1.2.2 x h y List.mem_cons_self;omega
     ·have:=(List.pairwise_cons.1 hp1.2.1).1 x h;omega
    have hsub:(l1++l2).Sublist (l1++y::l2):=List.Sublist.append (List.Sublist.refl _) (List.sublist_cons_self _ _)
    refine ih (rs:=l1++l2) (by simp at hlen⊢;omega) r' hrest (fun x hx=> ?_) (fun j hj hjl=> ?_) (fun j hj hjl x hx=> ?_) (hs.sublist hsub) (hp.sublist hsub) (by simpa using hsz)
    ·have hm:x∈l1++y::l2:=hsub.subset hx
     refine⟨(hi x hm).1, ?_⟩
     rw[oV (by omega),if_neg (hne x hx)];exact(hi x hm).2
    ·rw[oV (by omega)]at hjl
     split at hjl
     ·cases hjl
     ·rename_i hji
      obtain⟨z,hz,hzi⟩:=hl j hj hjl
      refine⟨z, ?_,hzi⟩
      rcases List.mem_append.1 hz with h|h
      ·exact List.mem_append_left _ h
      ·rcases List.mem_cons.1 h with h|h
       ·subst h;exact absurd hzi.symm hji
       ·exact List.mem_append_right _ h
    ·rw[oV (by omega)]at hjl⊢
     split
     ·rfl
     ·split at hjl
      ·rename_i hjy;subst hjy;exact closed x hx
      ·exact hc j hj hjl x hx
theorem uU: ∀ {l:List Oper} {i base:Nat} {s s':St} {kn:AE} {p p':gJ} {rs:List Rec} {ob:List Bool},pI tt ct ops l i base s kn p=some (rs,s',p',ob)→
  (∀b∈ob,b=true)→(∀k,base≤k→k<base+qW l→Heap.get s.heap k=.unborn)→base+qW l≤s.heap.length→
  m6 tt ct ops rs s s'∧rs.length=l.length∧ ∀k r,rs[k]? =some r→r.i=i+k∧l[k]? =some r.o
 |[],i,base,s,s',kn,p,p',rs,ob,h,ho,hf,hl=>by
  simp only[pI,Option.some.injEq,Prod.mk.injEq]at h
  obtain⟨rfl,rfl,rfl,rfl⟩:=h
  exact⟨.nil _,rfl,fun k r hk=>by simp at hk⟩
 |o::l,i,base,s,s',kn,p,p',rs,ob,h,ho,hf,hl=>by
  simp only[pI]at h
  split at h
  ·cases h
  ·rename_i dec kn' p1 hdec
   split at h
   ·cases h
   ·rename_i fp e hst
    cases hset:(e.sets.all fun x=>Nat.blt x.1 (base+slots o.op))with
    |false=>rw[hset]at h;cases h
    |true=>
    rw[hset]at h
    simp only[Bool.not_true,cond_false]at h
    split at h
    ·cases h
    ·rename_i rs' s2 p2 b hrest
     simp only[Option.some.injEq,Prod.mk.injEq]at h
     obtain⟨rfl,rfl,rfl,rfl⟩:=h
     simp only[qW]at hf hl
     have hlt: ∀x∈e.sets,x.1<base+slots o.op:=fun x hx=>by
      have:=List.all_eq_true.1 hset x hx
      simpa [Nat.blt_eq]using this
     obtain⟨g1,g2,g3⟩:=uU hrest (fun b hb=>ho b (List.mem_append_right _ hb)) (fun k hk1 hk2=>by
      simp only[dK]
      rw[eI (fun hm=>by
       obtain⟨x,hx,rfl⟩:=List.mem_map.1 hm
       have:=hlt x hx;omega)]
      exact hf k (by omega) (by omega)) (by simp only[dK,eJ];omega)
     refine⟨.cons _ _ _ _ hst (fun b hb=>ho b (List.mem_append_left _ hb)) (fun k hk=>by dsimp only at hk⊢;exact⟨hf _ (by omega) (by omega),by omega⟩) g1,by simp[g2],fun k r hk=> ?_⟩
     cases k with
     |zero=>simp at hk;subst hk;exact⟨rfl,by simp⟩
     |succ k=>
      obtain⟨a1,a2⟩:=g3 k r (by simpa using hk)
      exact⟨by omega,by simpa using a2⟩
def vA:Ex→Exit
 |.normal=> .normal
 |.exit id=> .exit id
 |.ret=> .ret
def sL (X:Nat→Prop) (w0:World) (ρ0:Rho) (Q:Ex→St→Prop):Exit→Act→World→Prop:=fun e a w=> ∃x s ρ,e=vA x∧Q x s∧Rel X w0 ρ0 s ρ a w
def aP (ro:Option Nat) (P:Program) (m:Nat) (c:Code) (s:St) (Q:Ex→St→Prop):Prop:=
 ∀ ⦃X:Nat→Prop⦄ ⦃w0:World⦄ ⦃ρ0 ρ:Rho⦄ ⦃a:Act⦄ ⦃w:World⦄,(∀k,m≤k→ρ0 k=.unborn)→Rel X w0 ρ0 s ρ a w→ ∀n,c.wpIn (FW ro) n P (sL X w0 ρ0 Q) a w
theorem sL.mono {w0:World} {ρ0:Rho} {Q Q':Ex→St→Prop} (h: ∀e s,Q e s→Q' e s): ∀e a w,sL X w0 ρ0 Q e a w→sL X w0 ρ0 Q' e a w:=
 fun e a w ⟨x,s,ρ,h1,h2,h3⟩=>⟨x,s,ρ,h1,h _ _ h2,h3⟩
theorem aP.mono {m:Nat} {c:Code} {s:St} {Q Q':Ex→St→Prop} (g:aP ro P m c s Q) (h: ∀e s,Q e s→Q' e s):aP ro P m c s Q':=
 fun _ _ _ _ _ _ h0 r n=>wpIn_mono (g h0 r n) (sL.mono h)
def fC (m:Nat) (s s':St):Prop:= ∀ ⦃X:Nat→Prop⦄ ⦃w0:World⦄ ⦃ρ0 ρ:Rho⦄ ⦃a:Act⦄ ⦃w:World⦄,(∀k,m≤k→ρ0 k=.unborn)→Rel X w0 ρ0 s ρ a w→ ∃ρ',Rel X w0 ρ0 s' ρ' a w
theorem fC.good {m:Nat} {c:Code} {s s':St} {Q:Ex→St→Prop} (h:fC m s s') (g:aP ro P m c s' Q):aP ro P m c s Q:=fun _ _ _ _ _ _ h0 r=>by
 obtain⟨ρ',r'⟩:=h h0 r
 exact g h0 r'
include hT hct in
theorem zH (bE:P.follows .mixedOrders=true) {m id:Nat} {draw:Bool} {s s':St} {p p':gJ} {rs:List Rec} {ob:List Bool}
  (h:pI tt ct ops ops.toList 0 s.heap.length {s with heap:=s.heap++List.replicate (qW ops.toList) .unborn} [] p=some (rs,s',p',ob)) (ho: ∀b∈ob,b=true)
  (hd:(!draw||rT ops rs)=true):aP ro P m (.region id ops draw) s (fun e t=>e=.normal∧t=s'):=by
 intro X w0 ρ0 ρ a w h0 r n
 have r1:Rel X w0 ρ0 {s with heap:=s.heap++List.replicate (qW ops.toList) .unborn} ρ a w:=⟨r.size,r.tmps,r.mem.reserve _,r.defers,r.mono,r.ids⟩
 obtain⟨g1,g2,g3⟩:=uU h ho (fun k hk1 hk2=>by
  unfold Heap.get
  rw[List.getD_eq_getElem?_getD,List.getElem?_append,if_neg (by omega),List.getElem?_replicate]
  split<;>rfl) (by simp)
 have hidx:rs.map (·.i)=List.range ops.size:=by
  apply List.ext_getElem?
  intro k
  rw[List.getElem?_map]
  by_cases hk:k<rs.length
  ·rw[List.getElem?_eq_getElem hk]
   have:=(g3 k _ (List.getElem?_eq_getElem hk)).1
   simp only[Option.map_some,this,Nat.zero_add]
   rw[List.getElem?_range (by rw[g2]at hk;simpa using hk)]
  ·rw[List.getElem?_eq_none (Nat.le_of_not_lt hk),List.getElem?_eq_none (by rw[g2]at hk;simp at hk⊢;omega)]
   rfl
 have hat: ∀r∈rs,ops[r.i]? =some r.o:=by
  intro r hr
  obtain⟨k,hk,rfl⟩:=List.getElem_of_mem hr
  obtain⟨a1,a2⟩:=g3 k _ (List.getElem?_eq_getElem hk)
  rw[a1,Nat.zero_add];simpa using a2
 have hend: ∀a w ρ,Rel X w0 ρ0 s' ρ a w→sL X w0 ρ0 (fun e t=>e=.normal∧t=s') .normal a w:=fun a w ρ r=>⟨.normal,s',ρ,rfl,⟨rfl,rfl⟩,r⟩
 cases draw with
 |false=>
  refine wpIn_region ?_
  rw[←hidx]
  exact v9 hT hct hend r1 g1 hat
 |true=>
  simp only[Bool.not_true,Bool.false_or,rT,Bool.and_eq_true,rpS]at hd
  refine wpIn_region_any bE ?_
  have r2:Rel X w0 ρ0 {s with heap:=s.heap++List.replicate (qW ops.toList) .unborn} ρ a {w with drawn:=w.drawn+1}:=
   ⟨r1.size,fun t ht=>(r1.tmps t ht).mono (bN.draw w ρ _),r1.mem.draw _,r1.defers.keep (fun _ h=>h),r1.mono.trans (bN.draw w ρ _).toB,r1.ids⟩
  have hsorted:rs.Pairwise (fun x y=>x.i<y.i):=by
   rw[List.pairwise_iff_getElem]
   intro i j hi hj hij
   have a1:=(g3 i _ (List.getElem?_eq_getElem hi)).1
   have a2:=(g3 j _ (List.getElem?_eq_getElem hj)).1
   omega
  refine H8 hT hct hend hd.1 (by rw[g2];simp) r2 g1 (fun r hr=>⟨hat r hr, ?_⟩) (fun j hj _=> ?_) (fun j hj hl=> ?_) hsorted (lP hd.2) (by simp)
  ·have:=(Array.getElem?_eq_some_iff.1 (hat r hr)).1
   simp[Array.getD,this]
  ·have hj2:j<rs.length:=by rw[g2];simpa using hj
   refine⟨rs[j],List.getElem_mem hj2, ?_⟩
   have:=(g3 j _ (List.getElem?_eq_getElem hj2)).1
   omega
  ·simp[Array.getD,hj]at hl
end
end
section
variable {X : Nat → Prop}
theorem idx?_spec: ∀ {l:List Nat} {id k:Nat},idx? l id=some k→l[k]? =some id
 |[],id,k,h=>by simp[idx?]at h
 |x::r,id,k,h=>by
  simp only[idx?]at h
  split at h
  ·rename_i e;injection h with h;subst h;simp[e]
  ·obtain⟨j,h1,h2⟩:=Option.map_eq_some_iff.1 h
   subst h2;simpa using idx?_spec h1
theorem kZ: ∀ {l:List Nat},cS l=true→ ∀ {i j x:Nat},l[i]? =some x→l[j]? =some x→i=j
 |[],_,i,j,x,h,_=>by simp at h
 |y::r,hn,i,j,x,h1,h2=>by
  simp only[cS,Bool.and_eq_true,rpS,Bool.not_eq_true']at hn
  have hy:y∉r:=fun hm=>by
   have:r.elem y=true:=List.elem_eq_true_of_mem hm
   rw[hn.1]at this;cases this
  cases i with
  |zero=>
   cases j with
   |zero=>rfl
   |succ j=>simp at h1 h2;subst h1;exact absurd (List.mem_of_getElem? h2) hy
  |succ i=>
   cases j with
   |zero=>simp at h1 h2;subst h2;exact absurd (List.mem_of_getElem? h1) hy
   |succ j=>congr 1;exact kZ hn.2 (by simpa using h1) (by simpa using h2)
theorem kF: ∀ {m k:Nat} {l:List Nat},eX m k l=true→ ∀i,i<m→l[i]? =some (k+i)
 |0,k,l,_,i,h=>absurd h (by omega)
 |m+1,k,[],h,i,hi=>by simp[eX]at h
 |m+1,k,x::r,h,i,hi=>by
  simp only[eX,Bool.and_eq_true,rpS,beq_iff_eq]at h
  cases i with
  |zero=>simp[h.1]
  |succ i=>
   have:=kF h.2 i (by omega)
   simp only[List.getElem?_cons_succ,this]
   congr 1;omega
theorem l0 (l:List Nat): ∀(cs:List aI) (i:Nat),(vT l cs).getD i .any=(cs.getD i .any).ren l
 |[],i=>by simp[vT,aI.ren]
 |x::r,0=>by simp[vT]
 |x::r,i+1=>by simpa [vT]using l0 l r i
theorem dP (l:List Nat): ∀cs:List aI,(vT l cs).length=cs.length
 |[]=>rfl
 |x::r=>by simp[vT,dP l r]
theorem x8 (l:List Nat): ∀(vs:List AV) (i:Nat),(BQ l vs).getD i (.tup [])=(vs.getD i (.tup [])).ren l
 |[],i=>by simp[BQ,AV.ren]
 |x::r,0=>by simp[BQ]
 |x::r,i+1=>by simpa [BQ]using x8 l r i
theorem kE (l:List Nat): ∀cs:List AV,(BQ l cs).length=cs.length
 |[]=>rfl
 |x::r=>by simp[BQ,kE l r]
def kQ (l:List Nat) (ρ ρ':Rho):Prop:= ∀id k,idx? l id=some k→ρ' k=ρ id∨ρ' k=.dead
theorem CR0.ren {w:World} {L L':Nat→Prop} (hL: ∀b,L' b→L b) {l:List Nat} {ρ:Rho} {c:aI} {v:Value} (h:CR0 w L ρ c v): ∀ {ρ':Rho},kQ l ρ ρ'→CR0 w L' ρ' (c.ren l) v:=by
 have mb:cY w L w L':=⟨fun _ _ _=>rfl,fun _ _=>rfl,Nat.le_refl _,fun b hb=> .inl (hL b hb)⟩
 induction h with
 |any v h=>exact fun _=> .any v h
 |int k n=>exact fun _=> .int k n
 |bool b=>exact fun _=> .bool b
 |str s=>exact fun _=> .str s
 |nilp=>exact fun _=> .nilp
 |nils=>exact fun _=> .nils
 |nilf=>exact fun _=> .nilf
 |ptrDead id i es j v hd h=>
  intro ρ' hr
  simp only[aI.ren]
  split
  ·rename_i k hk
   refine .ptrDead k i es j v ?_ h
   rcases hr _ _ hk with e|e
   ·rw[e];exact hd
   ·exact e
  ·exact .any v h
 |ptr id i es j b hb=>
  intro ρ' hr
  simp only[aI.ren]
  split
  ·rename_i k hk
   rcases hr _ _ hk with e|e
   ·exact .ptr k i es j b (by rw[e];exact hb)
   ·exact .ptrDead k i es j _ e rfl
  ·exact .any _ rfl
 |slDead id o len es cap v hd h=>
  intro ρ' hr
  simp only[aI.ren]
  split
  ·rename_i k hk
   refine .slDead k o len es none v ?_ h
   rcases hr _ _ hk with e|e
   ·rw[e];exact hd
   ·exact e
  ·exact .any v h
 |sl id o len es cap b c ty n hb hs hn hl hc=>
  intro ρ' hr
  simp only[aI.ren]
  split
  ·rename_i k hk
   rcases hr _ _ hk with e|e
   ·exact .sl k o len es none b c ty n (by rw[e];exact hb) hs hn hl (fun _ h=>by cases h)
   ·exact .slDead k o len es none _ e rfl
  ·exact .any _ rfl
 |slNone id o es cap a h1 hc=>
  intro ρ' hr
  simp only[aI.ren]
  split
  ·rename_i k hk
   rcases hr _ _ hk with e|e
   ·exact .slNone k o es none a (by rw[e];exact h1) (fun _ h=>by cases h)
   ·exact .slNone k o es none a (by rw[e];simp) (fun _ h=>by cases h)
  ·exact .any _ rfl
 |vptr c i es j b base u hl hc hu ih=>exact fun _=> .vptr c i es j b base u (fun h0 hb=>hl h0 (hL b hb)) hc (fun q hq=>(hu q hq).mono mb (.refl _))
 |view nl c len es cap b base k u hl hc hu hz hk hcap hnl ih=>
  exact fun _=> .view nl c len es cap b base k u (fun h0 hb=>hl h0 (hL b hb)) hc (fun q hq=>(hu q hq).mono mb (.refl _)) hz hk hcap hnl
 |viewNone nl c es cap a k hz hcap hnl hk=>exact fun _=> .viewNone nl c es cap a k hz hcap hnl hk
 |fn f caps vs hs h ih=>
  intro ρ' hr
  simp only[aI.ren]
  refine .fn f _ vs (by rw[dP];exact hs) fun i hi=> ?_
  rw[dP]at hi
  rw[l0]
  exact ih i hi hr
theorem orL {L L':Nat→Prop} (h: ∀b,L' b→L b): ∀b,(L' b∨X b)→(L b∨X b):=fun b hb=>hb.imp (h b) id
theorem AVR.ren {w:World} {ρ ρ':Rho} (hL: ∀b,b9 ρ' b→b9 ρ b) {l:List Nat} (hr:kQ l ρ ρ') {x:AV} {v:Value} (h:AVR X w ρ x v):AVR X w ρ' (x.ren l) v:=by
 induction h with
 |any v=>exact .any v
 |c x v h=>exact .c _ _ (CR0.ren (orL hL) h hr)
 |agg cs vs hs h=>
  simp only[AV.ren]
  refine .agg _ _ (by rw[dP];exact hs) fun i hi=> ?_
  rw[dP]at hi;rw[l0]
  exact CR0.ren (orL hL) (h i hi) hr
 |tup cs vs hs h ih=>
  simp only[AV.ren]
  refine .tup _ _ (by rw[kE];exact hs) fun i hi=> ?_
  rw[kE]at hi;rw[x8]
  exact ih i hi
def cE (h:List aV) (l:List Nat) (ρ:Rho):Rho:=fun k=>
 match l[k]? with
 |some id=>(match Heap.get h id with|.live (.recs ..)=> .dead|_=>ρ id)
 |none=> .unborn
theorem gF {h:List aV} {l:List Nat} {ρ:Rho} {k id:Nat} (hk:l[k]? =some id):cE h l ρ k=ρ id∨cE h l ρ k=.dead:=by
 unfold cE;rw[hk];dsimp only;split
 ·exact .inr rfl
 ·exact .inl rfl
theorem fO {h:List aV} {l:List Nat} {ρ:Rho} {k b:Nat} (hb:cE h l ρ k=.row b): ∃id,l[k]? =some id∧ρ id=.row b:=by
 cases hk:l[k]? with
 |none=>unfold cE at hb;rw[hk]at hb;cases hb
 |some id=>
  rcases gF (h:=h) (ρ:=ρ) hk with e|e
  ·exact⟨id,rfl,by rw[←e];exact hb⟩
  ·rw[e]at hb;cases hb
theorem eG (h:List aV) (l:List Nat) (ρ:Rho):kQ l ρ (cE h l ρ):=fun id k hk=>gF (idx?_spec hk)
theorem dE (h:List aV) (l:List Nat) (ρ:Rho): ∀b,b9 (cE h l ρ) b→b9 ρ b:=fun b ⟨k,hk⟩=>by
 obtain⟨id,_,h2⟩:=fO hk;exact⟨id,h2⟩
theorem P1 (h:List aV) (l:List Nat) (k:Nat):Heap.get (l.map fun id=>(Heap.get h id).ren l) k=(match l[k]? with|some id=>(Heap.get h id).ren l|none=> .unborn):=by
 unfold Heap.get
 rw[List.getD_eq_getElem?_getD,List.getElem?_map]
 cases l[k]? <;>rfl
theorem Mem.slot_ren {w0 w:World} {M:Nat→Prop} {h:List aV} {ρ:Rho} (m:Mem X w0 M h ρ w) {l:List Nat} {Y:Nat→Prop} (hY: ∀b,Y b→b9 ρ b∨X b) (k:Nat):
  eO Y w (cE h l ρ) (Heap.get (l.map fun id=>(Heap.get h id).ren l) k) (cE h l ρ k):=by
 have hLL: ∀b,(b9 (cE h l ρ) b∨Y b)→(b9 ρ b∨X b):=fun b hb=>hb.elim (fun h'=> .inl (dE h l ρ b h')) (hY b)
 rw[P1]
 cases hk:l[k]? with
 |none=>unfold cE;rw[hk];trivial
 |some id=>
  have hs:=m.slot id
  have hr:cE h l ρ k=(match Heap.get h id with|.live (.recs ..)=> .dead|_=>ρ id):=by unfold cE;rw[hk]
  rw[hr]
  dsimp only
  cases hg:Heap.get h id with
  |unborn=>rw[hg]at hs;show eO Y w _ .unborn (ρ id);cases hx:ρ id<;>rw[hx]at hs<;>first|trivial|exact hs.elim
  |dead=>rw[hg]at hs;show eO Y w _ .dead (ρ id);cases hx:ρ id<;>rw[hx]at hs<;>first|trivial|exact hs.elim
  |live c=>
   rw[hg]at hs
   have keep:(∀q,(c.cell q).ids=[])→eO Y w (cE h l ρ) (.live c) (ρ id):=by
    intro hfree
    cases hx:ρ id with
    |unborn=>rw[hx]at hs;exact hs.elim
    |dead=>rw[hx]at hs;exact hs.elim
    |nil=>rw[hx]at hs;exact hs
    |row b=>
     rw[hx]at hs
     obtain⟨cs,ty,e,h1,h2⟩:=hs
     refine⟨cs,ty,e,h1,fun q hq=> ?_⟩
     have mb:cY w (fun b=>b9 ρ b∨X b) w (fun b=>b9 (cE h l ρ) b∨Y b):=⟨fun _ _ _=>rfl,fun _ _=>rfl,Nat.le_refl _,fun b hb=> .inl (hLL b hb)⟩
     exact((h2 q hq).free (hfree q)).mono mb (cC.noIds _)
   cases c with
   |recs e n f=>exact trivial
   |ints k xs=>exact keep fun q=>by simp[Con.cell,aI.ids]
   |bools xs=>exact keep fun q=>by simp[Con.cell,aI.ids]
   |ivs k xss=>exact keep fun q=>by simp[Con.cell,aI.ids]
   |typ τ xs=>exact keep fun q=>eM (c:=.typ τ xs) rfl q
   |cells cs=>
    simp only[aV.ren]
    cases hx:ρ id with
    |unborn=>rw[hx]at hs;exact hs.elim
    |dead=>rw[hx]at hs;exact hs.elim
    |nil=>rw[hx]at hs;simp only[eO,Con.size,dP]at hs⊢;exact hs
    |row b=>
     rw[hx]at hs
     obtain⟨vs,ty,e,h1,h2⟩:=hs
     refine⟨vs,ty,e,by simpa [Con.size,dP]using h1,fun q hq=> ?_⟩
     simp only[Con.size,dP]at hq
     simp only[Con.cell]
     rw[l0]
     exact CR0.ren hLL (h2 q hq) (eG h l ρ)
theorem Mem.ren {w0 w:World} {M:Nat→Prop} {h:List aV} {ρ:Rho} (m:Mem X w0 M h ρ w) {l:List Nat} (hn:cS l=true):Mem X w0 M (l.map fun id=>(Heap.get h id).ren l) (cE h l ρ) w:=by
 refine⟨fun k=>m.slot_ren (fun b hb=> .inr hb) k,fun i j b hi hj=> ?_,fun k b hb=> ?_,m.os,m.tape,m.output,m.size,m.keep,m.foreign⟩
 ·obtain⟨a,a1,a2⟩:=fO hi
  obtain⟨c,c1,c2⟩:=fO hj
  have:=m.inj a c b a2 c2
  subst this
  exact kZ hn a1 c1
 ·obtain⟨a,a1,a2⟩:=fO hb
  exact m.own a b a2
theorem fE (live order:List Nat): ∀(l:List AV) (k:Nat),(tW live order l k).length=l.length
 |[],_=>rfl
 |v::r,k=>by simp[tW,fE live order r]
theorem mH (live order:List Nat): ∀(l:List AV) (k t:Nat),t<l.length→(tW live order l k).getD t (.tup [])=bif live.elem (k+t)then(l.getD t (.tup [])).ren order else .any
 |[],_,t,h=>by simp at h
 |v::r,k,0,_=>by simp[tW]
 |v::r,k,t+1,h=>by
  have:=mH live order r (k+1) t (by simpa using h)
  rw[show k+1+t=k+(t+1)from by omega]at this
  simpa [tW]using this
theorem fC.remap {m:Nat} {s:St} {live order:List Nat} (hn:cS order=true) (hr:eX m 0 order=true):fC m s (remap live order s):=by
 intro X w0 ρ0 ρ a w h0 r
 refine⟨cE s.heap order ρ,⟨by simp[Am.remap,fE,r.size],fun t ht=> ?_,r.mem.ren hn,r.defers, ?_, ?_⟩⟩
 ·simp only[Am.remap,fE]at ht⊢
  rw[mH _ _ _ _ _ ht]
  cases live.elem (0+t)with
  |false=>exact .any _
  |true=>exact(r.tmps t ht).ren (dE _ _ _) (eG _ _ _)
 ·exact r.mono.trans ⟨fun _ _ _=>rfl,fun _ _=>rfl,Nat.le_refl _,fun b hb=> .inl (dE _ _ _ b hb)⟩
 ·have key: ∀k,ρ0 k≠ .unborn→order[k]? =some k:=fun k hk=>by
   have hlt:k<m:=by
    rcases Nat.lt_or_ge k m with h|h
    ·exact h
    ·exact absurd (h0 k h) hk
   have:=kF hr k hlt
   rwa[Nat.zero_add]at this
  have one: ∀k,ρ0 k≠ .unborn→cE s.heap order ρ k=ρ k∨cE s.heap order ρ k=.dead:=fun k hk=>gF (key k hk)
  refine⟨fun id h=> ?_,fun id h=> ?_,fun id b h=> ?_⟩
  ·rcases one id (by rw[h];simp)with e|e
   ·rw[e];exact r.ids.dead id h
   ·exact e
  ·rcases one id (by rw[h];simp)with e|e
   ·rw[e];exact r.ids.nil id h
   ·exact .inr e
  ·rcases one id (by rw[h];simp)with e|e
   ·rw[e];exact r.ids.at_ id b h
   ·exact .inr e
theorem eY: ∀(l acc:List Nat),cS acc=true→cS (jI acc l)=true
 |[],acc,h=>h
 |x::r,acc,h=>by
  simp only[jI]
  cases he:acc.elem x with
  |true=>exact eY r acc h
  |false=>
   refine eY r _ ?_
   have hx:x∉acc:=fun hm=>by rw[List.elem_eq_true_of_mem hm]at he;cases he
   have: ∀(a:List Nat),cS a=true→x∉a→cS (a++[x])=true:=by
    intro a
    induction a with
    |nil=>intro _ _;rfl
    |cons y a iha=>
     intro hn hxa
     simp only[List.mem_cons,not_or]at hxa
     simp only[cS,Bool.and_eq_true,rpS,Bool.not_eq_true']at hn
     simp only[List.cons_append,cS,Bool.and_eq_true,rpS,Bool.not_eq_true']
     refine⟨?_,iha hn.2 hxa.2⟩
     cases hc:(a++[x]).elem y with
     |false=>rfl
     |true=>
      have:y∈a++[x]:=by simpa using hc
      rcases List.mem_append.1 this with h|h
      ·rw[List.elem_eq_true_of_mem h]at hn;cases hn.1
      ·simp at h;exact absurd h.symm hxa.1
   exact this acc h hx
theorem eZ: ∀(l acc:List Nat) (m k:Nat),eX m k acc=true→eX m k (jI acc l)=true
 |[],acc,m,k,h=>h
 |x::r,acc,m,k,h=>by
  simp only[jI]
  cases he:acc.elem x with
  |true=>exact eZ r acc m k h
  |false=>
   refine eZ r _ m k ?_
   have: ∀(a:List Nat) (m k:Nat),eX m k a=true→eX m k (a++[x])=true:=by
    intro a
    induction a with
    |nil=>intro m k h;cases m<;>first|rfl|simp[eX]at h
    |cons y a iha=>
     intro m k h
     cases m with
     |zero=>rfl
     |succ m=>
      simp only[List.cons_append,eX,Bool.and_eq_true,rpS]at h⊢
      exact⟨h.1,iha m (k+1) h.2⟩
   exact this acc m k h
theorem j8: ∀(m k:Nat),eX m k (cM m k)=true
 |0,k=>rfl
 |m+1,k=>by simp[cM,eX,j8 m (k+1)]
theorem wZ: ∀ {m k x:Nat},x∈cM m k→k≤x
 |0,k,x,h=>by cases h
 |m+1,k,x,h=>by
  rcases List.mem_cons.1 h with h|h
  ·omega
  ·have:=wZ h;omega
theorem j7: ∀(m k:Nat),cS (cM m k)=true
 |0,k=>rfl
 |m+1,k=>by
  simp only[cM,cS,Bool.and_eq_true,rpS,Bool.not_eq_true']
  refine⟨?_,j7 m (k+1)⟩
  cases h:(cM m (k+1)).elem k with
  |false=>rfl
  |true=>
   have:k∈cM m (k+1):=by simpa using h
   have:=wZ this;omega
theorem BM (m:Nat) (live:List Nat) (s:St):cS (MG m live s)=true:=eY _ _ (eY _ _ (j7 _ _))
theorem BN (m:Nat) (live:List Nat) (s:St):eX m 0 (MG m live s)=true:=eZ _ _ _ _ (eZ _ _ _ _ (j8 _ _))
theorem fC.fit (m:Nat) (live:List Nat) (s:St):fC m s (Am.fit m live s):=fC.remap (BM m live s) (BN m live s)
end
section
variable {X : Nat → Prop}
def iZ:Code→List (Nat×Code)
 |.block id c=>(id,c)::iZ c
 |.seq a b=>iZ a++iZ b
 |.cond _ a b=>iZ a++iZ b
 |.loop c=>iZ c
 |_=>[]
def aL (ro:Option Nat) (P:Program) (m:Nat) (lc:List (Nat×LC)) (c:Code):Prop:=
 ∀q∈iZ c,∀x,tH lc q.1=some x→aP ro P m (.block q.1 q.2) x.pre fun e s=>e=x.ex∧s=x.post
section
variable {ro : Option Nat} {P : Program} {tt : Tab} (hT : iK P tt) {ct : CT} (hct : bL P ct) (bE : P.follows .mixedOrders = true)
theorem qS {ro:Option Nat} {kf:Nat} {c:Code} {Q Q':Exit→Act→World→Prop} (h: ∀e a w,Q e a w→Q' e a w): ∀ {n:Nat} {a:Act} {w:World},Code.roundsIn (FW ro) kf P c Q n a w→Code.roundsIn (FW ro) kf P c Q' n a w
 |0,_,_,hr=>hr
 |n+1,a,w,hr=>by
  rw[roundsIn_succ]at hr⊢
  refine wpIn_mono hr fun e a w he=> ?_
  cases e with
  |normal=>exact qS h he
  |exit id=>exact h _ _ _ he
  |goto l=>exact h _ _ _ he
  |ret=>exact h _ _ _ he
  |panic c=>exact h _ _ _ he
  |outgrown=>exact h _ _ _ he
theorem gS {w0:World} {ρ0:Rho} {Q:Ex→St→Prop} {K:Act→World→Prop} {Q':Exit→Act→World→Prop} (hn: ∀s ρ a w,Q .normal s→Rel X w0 ρ0 s ρ a w→K a w)
  (he: ∀x s ρ a w,x≠ .normal→Q x s→Rel X w0 ρ0 s ρ a w→Q' (vA x) a w): ∀e a w,sL X w0 ρ0 Q e a w→Exit.then K Q' e a w:=by
 rintro e a w ⟨x,s,ρ,rfl,h1,h2⟩
 cases x with
 |normal=>exact hn s ρ a w h1 h2
 |exit id=>exact he (.exit id) s ρ a w (by simp) h1 h2
 |ret=>exact he .ret s ρ a w (by simp) h1 h2
include hT hct bE in
theorem k7 {m:Nat} {lc:List (Nat×LC)}: ∀(n:Nat) {c:Code} {s:St} {p:gJ} {o:Out},aM tt ct lc m n c s p=some o→(∀b∈o.obl,b=true)→(∀q∈o.eqs,q)→aL ro P m lc c→
  aP ro P m c s (fun e t=>e=o.ex∧t=o.st)∧ ∀body,c=.loop body→ ∀ ⦃X:Nat→Prop⦄ ⦃w0:World⦄ ⦃ρ0 ρ:Rho⦄ ⦃a:Act⦄ ⦃w:World⦄,(∀k,m≤k→ρ0 k=.unborn)→Rel X w0 ρ0 s ρ a w→ ∀kf,Code.roundsIn (FW ro) kf P body (sL X w0 ρ0 fun e t=>e=o.ex∧t=o.st) n a w:=by
 intro n
 induction n with
 |zero=>intro c s p o h;simp[aM]at h
 |succ n ih=>
  intro c s p o h ho hq hlc
  cases c with
  |skip=>
   simp only[aM,Option.some.injEq]at h;subst h
   exact⟨fun _ _ _ _ _ _ h0 r kf=>wpIn_skip ⟨.normal,s,_,rfl,⟨rfl,rfl⟩,r⟩,fun _ h=>by cases h⟩
  |label l=>
   simp only[aM,Option.some.injEq]at h;subst h
   exact⟨fun _ _ _ _ _ _ h0 r kf=>wpIn_label ⟨.normal,s,_,rfl,⟨rfl,rfl⟩,r⟩,fun _ h=>by cases h⟩
  |ret=>
   simp only[aM,Option.some.injEq]at h;subst h
   exact⟨fun _ _ _ _ _ _ h0 r kf=>wpIn_ret ⟨.ret,s,_,rfl,⟨rfl,rfl⟩,r⟩,fun _ h=>by cases h⟩
  |exit id=>
   simp only[aM,Option.some.injEq]at h;subst h
   exact⟨fun _ _ _ _ _ _ h0 r kf=>wpIn_exit ⟨.exit id,s,_,rfl,⟨rfl,rfl⟩,r⟩,fun _ h=>by cases h⟩
  |region id ops draw=>
   simp only[aM]at h
   split at h
   ·cases h
   ·rename_i rs s' p' b hrun
    cases hd:(!draw||rT ops rs)with
    |false=>rw[hd]at h;cases h
    |true=>
     rw[hd]at h
     simp only[cond_true,Option.some.injEq]at h;subst h
     exact⟨zH hT hct bE hrun ho hd,fun _ h=>by cases h⟩
  |seq x y=>
   refine⟨?_,fun _ h=>by cases h⟩
   simp only[aM]at h
   have hlx:aL ro P m lc x:=fun q hq=>hlc q (List.mem_append_left _ hq)
   have hly:aL ro P m lc y:=fun q hq=>hlc q (List.mem_append_right _ hq)
   split at h
   ·rename_i s1 p1 o1 q1 h1
    split at h
    ·rename_i e2 s2 p2 o2 q2 h2
     simp only[Option.some.injEq]at h;subst h
     have g1:=(ih h1 (fun b hb=>ho b (List.mem_append_left _ hb)) (fun q hq'=>hq q (List.mem_append_left _ hq')) hlx).1
     have g2:=(ih h2 (fun b hb=>ho b (List.mem_append_right _ hb)) (fun q hq'=>hq q (List.mem_append_right _ hq')) hly).1
     intro X w0 ρ0 ρ a w h0 r kf
     refine wpIn_seq (wpIn_mono (g1 h0 r kf) (gS (fun t ρ a w ht r=> ?_) (fun e t ρ a w hne ht r=> ?_)))
     ·obtain⟨_,rfl⟩:=ht;exact g2 h0 r kf
     ·exact absurd ht.1 hne
    ·cases h
   ·rename_i r1 hne
    cases hr:aM tt ct lc m n x s p with
    |none=>rw[hr]at h;cases h
    |some o1=>
     rw[hr]at h
     simp only[Option.some.injEq]at h;subst h
     have g1:=(ih hr ho hq hlx).1
     intro X w0 ρ0 ρ a w h0 r kf
     have hnn:o1.ex≠ .normal:=fun e=>by
      obtain⟨ex,st,pa,ob,eq⟩:=o1
      dsimp only at e;subst e
      exact hne _ _ _ _ hr
     refine wpIn_seq (wpIn_mono (g1 h0 r kf) (gS (fun t ρ a w ht r=>absurd ht.1.symm hnn) (fun e t ρ a w hne ht r=>⟨e,t,ρ,rfl,ht,r⟩)))
  |cond x a b=>
   refine⟨?_,fun _ h=>by cases h⟩
   simp only[aM]at h
   split at h
   ·cases h
   ·rename_i t p1 hp
    split at h
    ·rename_i v hv
     split at h
     ·rename_i e s1 p2 o1 q1 h1
      simp only[Option.some.injEq]at h;subst h
      have hb:(bif t then v else !v)=true:=ho _ List.mem_cons_self
      have htv:v=t:=by cases t<;>cases v<;>simp at hb⊢
      subst htv
      have hl1:aL ro P m lc (bif v then a else b):=fun q hq=>hlc q (by cases v with
       |false=>exact List.mem_append_right _ hq
       |true=>exact List.mem_append_left _ hq)
      have g1:=(ih h1 (fun b hb=>ho b (List.mem_cons_of_mem _ hb)) hq hl1).1
      intro X w0 ρ0 ρ a w h0 r kf
      have hev:=r.ev x
      rw[hv]at hev
      have hx:=fW hev
      refine wpIn_cond hx ?_
      have:=g1 h0 r kf
      cases v<;>exact this
     ·cases h
    ·cases h
  |block id body=>
   refine⟨?_,fun _ h=>by cases h⟩
   simp only[aM]at h
   split at h
   ·rename_i x hx
    simp only[Option.some.injEq]at h;subst h
    have h3:fit m x.live s=x.pre:=hq _ (by simp)
    have g:=hlc (id,body) List.mem_cons_self x hx
    rw[←h3]at g
    exact(fC.fit m x.live s).good g
   ·have hlb:aL ro P m lc body:=fun q hq=>hlc q (List.mem_cons_of_mem _ hq)
    split at h
    ·rename_i k s1 p1 o1 q1 h1
     simp only[Option.some.injEq]at h;subst h
     have g1:=(ih h1 ho hq hlb).1
     intro X w0 ρ0 ρ a w h0 r kf
     refine wpIn_block (wpIn_mono (g1 h0 r kf) ?_)
     rintro e a w ⟨x,t,ρ,rfl,⟨hx,rfl⟩,r'⟩
     dsimp only at hx;subst hx
     simp only[vA,Exit.inBlock]
     split
     ·exact⟨.normal,t,ρ,rfl,⟨rfl,rfl⟩,r'⟩
     ·exact⟨.exit k,t,ρ,rfl,⟨rfl,rfl⟩,r'⟩
    ·rename_i r1 hne
     have g1:=(ih h ho hq hlb).1
     intro X w0 ρ0 ρ a w h0 r kf
     refine wpIn_block (wpIn_mono (g1 h0 r kf) ?_)
     rintro e a w ⟨x,t,ρ,rfl,⟨hx,rfl⟩,r'⟩
     cases x with
     |normal=>exact⟨.normal,_,ρ,rfl,⟨hx,rfl⟩,r'⟩
     |ret=>exact⟨.ret,_,ρ,rfl,⟨hx,rfl⟩,r'⟩
     |exit k=>
      exfalso
      obtain⟨ex,st,pa,ob,eq⟩:=o
      dsimp only at hx;subst hx
      exact hne _ _ _ _ _ h
  |loop body=>
   simp only[aM]at h
   have hlb:aL ro P m lc body:=fun q hq=>hlc q hq
   have hr: ∀ ⦃X:Nat→Prop⦄ ⦃w0:World⦄ ⦃ρ0 ρ:Rho⦄ ⦃a:Act⦄ ⦃w:World⦄,(∀k,m≤k→ρ0 k=.unborn)→Rel X w0 ρ0 s ρ a w→ ∀kf,Code.roundsIn (FW ro) kf P body (sL X w0 ρ0 fun e t=>e=o.ex∧t=o.st) (n+1) a w:=by
    split at h
    ·rename_i s1 p1 o1 q1 h1
     split at h
     ·rename_i e2 s2 p2 o2 q2 h2
      simp only[Option.some.injEq]at h;subst h
      have g1:=(ih h1 (fun b hb=>ho b (List.mem_append_left _ hb)) (fun q hq'=>hq q (List.mem_append_left _ hq')) hlb).1
      have g2:=(ih h2 (fun b hb=>ho b (List.mem_append_right _ hb)) (fun q hq'=>hq q (List.mem_append_right _ hq')) hlc).2
      intro X w0 ρ0 ρ a w h0 r kf
      rw[roundsIn_succ]
      refine wpIn_mono (g1 h0 r kf) (gS (fun t ρ a w ht r=> ?_) (fun e t ρ a w hne ht r=>absurd ht.1 hne))
      obtain⟨_,rfl⟩:=ht
      exact g2 body rfl h0 r kf
     ·cases h
    ·rename_i r1 hne
     have g1:=(ih h ho hq hlb).1
     intro X w0 ρ0 ρ a w h0 r kf
     have hnn:o.ex≠ .normal:=fun e=>by
      obtain⟨ex,st,pa,ob,eq⟩:=o
      dsimp only at e;subst e
      exact hne _ _ _ _ h
     rw[roundsIn_succ]
     exact wpIn_mono (g1 h0 r kf) (gS (fun t ρ a w ht r=>absurd ht.1.symm hnn) (fun e t ρ a w hne ht r=>⟨e,t,ρ,rfl,ht,r⟩))
   exact⟨fun _ _ _ _ _ _ h0 r kf=>wpIn_loop_rounds (n+1) (hr h0 r kf),fun b hb=>by cases hb;exact hr⟩
  |scope c=>simp[aM]at h
  |goto l=>simp[aM]at h
  |rangeFunc f ps x y=>simp[aM]at h
  |refuse w=>simp[aM]at h
theorem aP.loop {α:Type} {m:Nat} {body:Code} (I:α→St) (μ:α→Nat) (Q:α→Ex→St→Prop)
  (h: ∀x,aP ro P m body (I x) fun e s=>(e=.normal∧ ∃y,μ y<μ x∧fC m s (I y)∧ ∀e t,Q y e t→Q x e t)∨(e≠ .normal∧Q x e s)): ∀x,aP ro P m (.loop body) (I x) (Q x):=by
 intro x X w0 ρ0 ρ a w h0 r kf
 have key: ∀n x ρ a w,μ x<n→Rel X w0 ρ0 (I x) ρ a w→Code.roundsIn (FW ro) kf P body (sL X w0 ρ0 (Q x)) n a w:=by
  intro n
  induction n with
  |zero=>intro x ρ a w hl;omega
  |succ n ih=>
   intro x ρ a w hl r
   rw[roundsIn_succ]
   refine wpIn_mono (h x h0 r kf) (gS (fun t ρ a w ht r=> ?_) (fun e t ρ a w hne ht r=> ?_))
   ·rcases ht with⟨_,y,hy,hw,hq⟩|⟨hne,_⟩
    ·obtain⟨ρ',r'⟩:=hw h0 r
     exact qS (sL.mono hq) (ih y ρ' a w (by omega) r')
    ·exact absurd rfl hne
   ·rcases ht with⟨he,_⟩|⟨_,hq⟩
    ·exact absurd he hne
    ·exact⟨e,t,ρ,rfl,hq,r⟩
 exact wpIn_loop_rounds (μ x+1) (key _ x ρ a w (Nat.lt_succ_self _) r)
theorem aP.block {m id:Nat} {c:Code} {s:St} {Q:Ex→St→Prop} (g:aP ro P m c s fun e t=>(e=.exit id∧Q .normal t)∨(e≠ .exit id∧Q e t)):aP ro P m (.block id c) s Q:=by
 intro X w0 ρ0 ρ a w h0 r kf
 refine wpIn_block (wpIn_mono (g h0 r kf) ?_)
 rintro e a w ⟨x,t,ρ,rfl,hx,r'⟩
 rcases hx with⟨rfl,hq⟩|⟨hne,hq⟩
 ·simp only[vA,Exit.inBlock,if_true]
  exact⟨.normal,t,ρ,rfl,hq,r'⟩
 ·cases x with
  |normal=>exact⟨.normal,t,ρ,rfl,hq,r'⟩
  |ret=>exact⟨.ret,t,ρ,rfl,hq,r'⟩
  |exit k=>
   simp only[vA,Exit.inBlock]
   rw[if_neg (fun e=>hne (by rw[e]))]
   exact⟨.exit k,t,ρ,rfl,hq,r'⟩
theorem aP.weaken {m:Nat} {c:Code} {s:St} {Q Q':Ex→St→Prop} (g:aP ro P m c s Q) (h: ∀e t,Q e t→ ∃t',fC m t t'∧Q' e t'):aP ro P m c s Q':=fun _ _ _ _ _ _ h0 r kf=>
 wpIn_mono (g h0 r kf) fun _ _ _ ⟨x,t,ρ,h1,h2,h3⟩=>by
  obtain⟨t',hw,hq⟩:=h x t h2
  obtain⟨ρ',r'⟩:=hw h0 h3
  exact⟨x,t',ρ',h1,hq,r'⟩
def oM (id:Nat) (c:Code):List Code:=((iZ c).filter fun q=>q.1==id).map (·.2)
def aC (id:Nat) (c:Code):Code:=
 match oM id c with
 |[.loop b]=>b
 |_=> .skip
def tS (id:Nat) (c:Code):Bool:=
 match oM id c with
 |[.loop _]=>true
 |_=>false
theorem B8 {id:Nat} {c:Code} (h:tS id c=true): ∀q∈iZ c,q.1=id→q.2=.loop (aC id c):=by
 intro q hq hid
 have hm:q.2∈oM id c:=List.mem_map.2 ⟨q,List.mem_filter.2 ⟨hq,by simp[hid]⟩,rfl⟩
 unfold tS at h
 split at h
 ·rename_i b hb
  rw[hb]at hm
  have:aC id c=b:=by unfold aC;rw[hb]
  rw[this];simpa using hm
 ·cases h
theorem aL.nil {ro:Option Nat} {P:Program} {m:Nat} {c:Code}:aL ro P m [] c:=by intro q hq x hx;cases hx
theorem aL.cons {ro:Option Nat} {P:Program} {m id:Nat} {c:Code} {x:LC} {lc:List (Nat×LC)} (hl:tS id c=true) (g:aP ro P m (.block id (.loop (aC id c))) x.pre fun e s=>e=x.ex∧s=x.post) (r:aL ro P m lc c):
  aL ro P m ((id,x)::lc) c:=by
 intro q hq y hy
 simp only[tH]at hy
 split at hy
 ·rename_i e
  injection hy with hy;subst hy
  rw[B8 hl q hq e.symm,←e];exact g
 ·exact r q hq y hy
include hT hct bE in
theorem aP.rounds {m id:Nat} {body:Code} {α:Type} (Inv:α→Prop) (I:α→St) (μ:α→Nat) (live liveX:List Nat) (ex:α→Ex) (post:α→St) (lc:α→List (Nat×LC))
  (hlc: ∀x,Inv x→aL ro P m (lc x) body)
  (h: ∀x,Inv x→ ∃n p o,aM tt ct (lc x) m n body (I x) p=some o∧(∀b∈o.obl,b=true)∧(∀q∈o.eqs,q)∧
   ((o.ex=.normal∧ ∃y,Inv y∧μ y<μ x∧fit m live o.st=I y∧ex y=ex x∧post y=post x)∨(o.ex=.exit id∧ex x=.normal∧fit m liveX o.st=post x)∨
    (o.ex≠ .normal∧o.ex≠ .exit id∧ex x=o.ex∧fit m liveX o.st=post x))):
  ∀x,Inv x→aP ro P m (.block id (.loop body)) (I x) fun e t=>e=ex x∧t=post x:=by
 intro x0 hx0
 let Q: {x//Inv x}→Ex→St→Prop:=fun x e t=>e≠ .normal∧(if e=.exit id then ex x.1=.normal else ex x.1=e)∧fit m liveX t=post x.1
 have key:=aP.loop (P:=P) (m:=m) (body:=body) (α:= {x//Inv x}) (fun x=>I x.1) (fun x=>μ x.1) Q (fun x=>by
  obtain⟨n,p,o,he,ho,hq,hc⟩:=h x.1 x.2
  refine((k7 hT hct bE n he ho hq (hlc x.1 x.2)).1).mono fun e t ⟨h1,h2⟩=> ?_
  subst h1 h2
  rcases hc with⟨hn,y,hy,hm,hf,e1,e2⟩|⟨hn,e1,e2⟩|⟨h1,h2,h3,h4⟩
  ·refine .inl ⟨hn,⟨y,hy⟩,hm,by rw[←hf];exact fC.fit m live _,fun e t hq=> ?_⟩
   simp only[Q,e1,e2]at hq⊢;exact hq
  ·refine .inr ⟨by rw[hn];simp,by rw[hn];simp,by rw[hn];simp[e1],e2⟩
  ·exact .inr ⟨h1,h1,by rw[if_neg h2];exact h3,h4⟩) ⟨x0,hx0⟩
 refine(aP.block (Q:=fun e t=>e=ex x0∧fit m liveX t=post x0) (key.mono fun e t hq=> ?_)).weaken fun e t ⟨h1,h2⟩=>⟨post x0,by rw[←h2];exact fC.fit m liveX t,h1,rfl⟩
 obtain⟨h1,h2,h3⟩:=hq
 by_cases e1:e=.exit id
 ·rw[if_pos e1]at h2
  exact .inl ⟨e1,h2.symm,h3⟩
 ·rw[if_neg e1]at h2
  exact .inr ⟨e1,h2.symm,h3⟩
def bF (P:Program) (f:FuncId) (args:List AV) (h:List aV) (res:AV) (h':List aV):Prop:=
 (∃fn,P.funcs[f]? =some fn∧fn.body.isSome=true∧(fn.name== "runtime.NumGoroutine")=false)∧
 ∀ {X:Nat→Prop} {w0:World} {ρ0:Rho},Mem X w0 (b9 ρ0) h ρ0 w0→ ∀(vs:List Value),vs.length=args.length→(∀q,q<args.length→AVR X w0 ρ0 (args.getD q .any) (vs.getD q undef))→
  Calls P f vs.toArray w0 fun e w'=> ∃v ρ',e=.returned v∧cY w0 (b9 ρ0) w' (b9 ρ')∧cC ρ0 ρ'∧Mem X w0 (b9 ρ0) h' ρ' w'∧AVR X w' ρ' res v
def wX:List Value→Value
 |[u]=>u
 |us=> .tuple us.toArray
def nS (a:Act):ResultVar→Sem Value
 |.tmp t=>pure (a.tmps.getD t undef)
 |.cell ad t=>do loadVar t (←asAddr (a.tmps.getD ad undef))
include hT in
theorem lS {w0:World} {ρ0:Rho} {s:St} {ρ:Rho} {a:Act} {w:World} (r:Rel X w0 ρ0 s ρ a w): ∀ {l:List ResultVar} {vs:List AV} {o:List Bool},nU tt s l=some (vs,o)→(∀b∈o,b=true)→
  ∃us:List Value,(l.mapM (nS a)).run P w=.ok us w∧us.length=vs.length∧ ∀i,i<vs.length→AVR X w ρ (vs.getD i (.tup [])) (us.getD i undef)
 |[],vs,o,h,ho=>by
  simp only[nU,Option.some.injEq,Prod.mk.injEq]at h
  obtain⟨rfl,rfl⟩:=h
  exact⟨[],by simp,rfl,fun i hi=>by simp at hi⟩
 |x::l,vs,o,h,ho=>by
  simp only[nU]at h
  split at h
  ·rename_i v o1 vs1 o2 h1 h2
   simp only[Option.some.injEq,Prod.mk.injEq]at h
   obtain⟨rfl,rfl⟩:=h
   obtain⟨us,g1,g2,g3⟩:=lS r h2 (fun b hb=>ho b (List.mem_append_right _ hb))
   have hd: ∃u,(nS a x).run P w=.ok u w∧AVR X w ρ v u:=by
    cases x with
    |tmp t=>
     simp only[F0,Option.some.injEq,Prod.mk.injEq]at h1
     obtain⟨rfl,rfl⟩:=h1
     exact⟨_,rfl,r.ev (.tmp t)⟩
    |cell ad t=>
     simp only[F0]at h1
     obtain⟨e,he,h3⟩:=Option.map_eq_some_iff.1 h1
     injection h3 with h3 h4;subst h3 h4
     have hx:=r.ev (.tmp ad)
     obtain⟨u,q1,q2,q3,ad',q4⟩:=u0 hT r.mem (get:=Heap.get s.heap) (fun _ _ h=>h) hx he (fun b hb=>ho b (List.mem_append_left _ hb))
     refine⟨u, ?_,q2⟩
     have q4':a.tmps.getD ad undef=.pointer (some ad'):=q4
     rw[q4]at q1
     simpa [nS,q4',asAddr,Instr.loadAt,Instr.sureAddr]using q1
   obtain⟨u,d1,d2⟩:=hd
   refine⟨u::us, ?_,by simp[g2],fun i hi=> ?_⟩
   ·simp only[List.mapM_cons,Sem.run_bind,d1,Result.andThen_ok,g1,Sem.run_pure]
   ·cases i with
    |zero=>simpa using d2
    |succ i=>simpa using g3 i (by simpa using hi)
  ·cases h
theorem F2 (fn:Func) (a:Act):results fn a.tmps=(do let vs←fn.results.mapM (nS a);pure (if h:vs.size=1 then vs[0]else .tuple vs)):=by
 unfold results
 congr 1
theorem kR: ∀ {l:List Bool},LD l=true→ ∀b∈l,b=true
 |[],_,b,h=>by cases h
 |x::r,h,b,hb=>by
  simp only[LD,Bool.and_eq_true,rpS]at h
  rcases List.mem_cons.1 hb with e|e
  ·subst e;exact h.1
  ·exact kR h.2 b e
theorem Rel.leave {F:Fence} {n:Nat} {P:Program} {fn:Func} {R:Ending→World→Prop} {w0:World} {ρ0:Rho} {s:St} {ρ:Rho} {tmps:Array Value}: ∀ {l:List Deferred} {w:World},Rel X w0 ρ0 s ρ {tmps,defers:=l} w→
  (∀w',Rel X w0 ρ0 s ρ {tmps,defers:=[]} w'→LeavesIn F n P fn tmps R [] .returning w')→LeavesInM F n P fn tmps R l .returning w
 |[],w,r,h=>h w r
 |d::l,w,r,h=>by
  obtain⟨Ds,h1,h2,h3⟩:=r.defers
  cases Ds with
  |nil=>cases h2
  |cons D Ds=>
   obtain⟨hn,h1⟩:=List.nodup_cons.1 h1
   obtain⟨hD,hk⟩:=h3 D List.mem_cons_self
   simp only[List.map_cons,List.cons.injEq]at h2
   obtain⟨rfl,h2⟩:=h2
   refine⟨by simp,.inl ⟨_,_,rfl,run_takeDeferred hk,Rel.leave (w:=w.putObj D (.deferred none)) ⟨r.size,fun t ht=>AVR.shut hk (r.tmps t ht),r.mem.shut hk hD,⟨Ds,h1,h2,fun D' hD'=>⟨(h3 D' (List.mem_cons_of_mem _ hD')).1, ?_⟩⟩,⟨fun b hb hl=> ?_,fun b hb=> ?_, ?_,r.mono.fresh⟩,r.ids⟩ h⟩⟩
   ·rw[World.putObj_heap_other (show D'≠D from fun e=>hn (by rw[←e];exact hD'))];exact(h3 D' (List.mem_cons_of_mem _ hD')).2
   ·rw[World.putObj_heap_other (by omega)];exact r.mono.keep b hb hl
   ·rw[shape?_shut hk];exact r.mono.shape b hb
   ·rw[World.putObj_size];exact r.mono.size
include hT hct bE in
theorem qF {lc:List (Nat×LC)} {fuel:Nat} {f:FuncId} {fn:Func} {args:List AV} {h:List aV} {p:gJ} {o:sF} (hf:P.funcs[f]? =some fn) (hnm:(fn.name== "runtime.NumGoroutine")=false)
  (he:aJ tt ct lc fuel fn args h p=some o) (ho:o.obl=true) (hq: ∀q∈o.eqs,q) (hlc: ∀c,fn.body=some c→aL none P h.length lc c):bF P f args h o.res o.heap:=by
 unfold aJ at he
 split at he
 ·cases he
 ·rename_i c hbody
  refine⟨⟨fn,hf,by simp[hbody],hnm⟩,fun {X w0 ρ0} hmem vs hvl hva=> ?_⟩
  split at he
  ·cases he
  ·rename_i ex s p' o1 q hne hev
   split at he
   ·cases he
   ·rename_i rs o2 hres
    simp only[Option.some.injEq]at he
    subst he
    dsimp only at ho hq⊢
    have hob:=kR ho
    have hgood:=(k7 hT hct bE fuel hev (fun b hb=>hob b (List.mem_append_left _ hb)) hq (hlc c hbody)).1
    have hrel:Rel X w0 ρ0 (GV fn args h) ρ0 {tmps:=vs.toArray++Array.replicate (fn.ntmps-vs.toArray.size) undef,defers:=[]} w0:=by
     refine⟨by simp[GV,hvl],fun t ht=> ?_,hmem,hG.nil _ _,cY.refl _ _,cC.refl _⟩
     simp only[GV]
     by_cases h1:t<args.length
     ·have:=hva t h1
      have h2:t<vs.length:=by omega
      have e1:(args++List.replicate (fn.ntmps-args.length) (AV.tup [])).getD t (.tup [])=args.getD t .any:=by
       simp[List.getD_eq_getElem?_getD,List.getElem?_append,h1]
      have e2:(vs.toArray++Array.replicate (fn.ntmps-vs.toArray.size) undef).getD t undef=vs.getD t undef:=by
       simp[Array.getD_eq_getD_getElem?,Array.getElem?_append,h2]
      rw[e1,e2];exact this
     ·have h2: ¬t<vs.length:=by omega
      have e1:(args++List.replicate (fn.ntmps-args.length) (AV.tup [])).getD t (.tup [])=.tup []:=by
       simp only[List.getD_eq_getElem?_getD,List.getElem?_append,h1,if_false,List.getElem?_replicate]
       split<;>rfl
      have e2:(vs.toArray++Array.replicate (fn.ntmps-vs.toArray.size) undef).getD t undef=undef:=by
       simp only[Array.getD_eq_getD_getElem?,Array.getElem?_append,List.size_toArray,h2,if_false,Array.getElem?_replicate]
       split<;>rfl
      rw[e1,e2];exact oK w0 ρ0
    have h0: ∀k,h.length≤k→ρ0 k=.unborn:=fun k hk=>by
     have:=hmem.slot k
     rw[Heap.get_ge hk]at this
     cases hx:ρ0 k<;>rw[hx]at this<;>first|rfl|exact this.elim
    refine(callsIn_wide (n:=1)).1 (callsIn_of_wp_marks hf hbody trivial (wpIn_mono (hgood h0 hrel 1) ?_))
    rintro e ⟨tm,df⟩ w1 ⟨x,t,ρ,rfl,⟨hx,rfl⟩,r1⟩
    dsimp only at hx r1
    suffices hs: ∀w,Rel X w0 ρ0 t ρ {tmps:=tm,defers:=[]} w→LeavesIn Fence.wide 1 P fn tm (fun e w'=> ∃v ρ',e=.returned v∧cY w0 (b9 ρ0) w' (b9 ρ')∧cC ρ0 ρ'∧Mem X w0 (b9 ρ0) ((dD h.length (lF rs) t.heap).map fun id=>(Heap.get t.heap id).ren (dD h.length (lF rs) t.heap)) ρ' w'∧AVR X w' ρ' ((lF rs).ren (dD h.length (lF rs) t.heap)) v) [] .returning w by
     cases x with
     |normal=>exact Rel.leave r1 hs
     |ret=>exact Rel.leave r1 hs
     |exit k=>exact(hne k hx.symm).elim
    intro w r
    generalize ha:({tmps:=tm,defers:=[]}:Act)=a at r
    obtain rfl:tm=a.tmps:=by rw[←ha]
    obtain⟨us,g1,g2,g3⟩:=lS hT r hres (fun b hb=>hob b (List.mem_append_right _ hb))
    have hrun:(results fn a.tmps).run P w=.ok (wX us) w:=by
     rw[F2]
     have e1:(fn.results.mapM (nS a)).run P w=.ok us.toArray w:=by
      rw[Array.mapM_eq_mapM_toList]
      simp[g1]
     simp only[Sem.run_bind,e1,Result.andThen_ok,Sem.run_pure]
     congr 1
     cases us with
     |nil=>simp[wX]
     |cons u us=>cases us<;>simp[wX]
    have hres':AVR X w ρ (lF rs) (wX us):=by
     have tup:AVR X w ρ (.tup rs) (.tuple us.toArray):=.tup _ _ (by simp[g2]) fun i hi=>by
      have:=g3 i hi
      simpa [Array.getD_eq_getD_getElem?,List.getD_eq_getElem?_getD]using this
     cases rs with
     |nil=>cases us with
      |nil=>exact tup
      |cons u us=>simp at g2
     |cons v rs=>
      cases us with
      |nil=>simp at g2
      |cons u us=>
       cases rs with
       |nil=>
        cases us with
        |nil=>have:=g3 0 (by simp);simpa [lF,wX]using this
        |cons u' us=>simp at g2
       |cons v' rs=>
        cases us with
        |nil=>simp at g2
        |cons u' us=>exact tup
    have hn:cS (dD h.length (lF rs) t.heap)=true:=by
     unfold dD
     exact eY _ _ (eY _ _ (j7 _ _))
    have hroots:eX h.length 0 (dD h.length (lF rs) t.heap)=true:=by
     unfold dD
     exact eZ _ _ _ _ (eZ _ _ _ _ (j8 _ _))
    have hend: ∃v ρ',(Ending.returned (wX us))=.returned v∧cY w0 (b9 ρ0) w (b9 ρ')∧cC ρ0 ρ'∧
      Mem X w0 (b9 ρ0) ((dD h.length (lF rs) t.heap).map fun id=>(Heap.get t.heap id).ren (dD h.length (lF rs) t.heap)) ρ' w∧
      AVR X w ρ' ((lF rs).ren (dD h.length (lF rs) t.heap)) v:=by
     refine⟨_,cE t.heap (dD h.length (lF rs) t.heap) ρ,rfl, ?_, ?_,r.mem.ren hn,hres'.ren (dE _ _ _) (eG _ _ _)⟩
     ·exact r.mono.trans ⟨fun _ _ _=>rfl,fun _ _=>rfl,Nat.le_refl _,fun b hb=> .inl (dE _ _ _ b hb)⟩
     ·have one: ∀k,ρ0 k≠ .unborn→cE t.heap (dD h.length (lF rs) t.heap) ρ k=ρ k∨cE t.heap (dD h.length (lF rs) t.heap) ρ k=.dead:=fun k hk=>by
       have hlt:k<h.length:=by
        rcases Nat.lt_or_ge k h.length with h'|h'
        ·exact h'
        ·exact absurd (h0 k h') hk
       have:=kF hroots k hlt
       rw[Nat.zero_add]at this
       exact gF this
      refine⟨fun id h=> ?_,fun id h=> ?_,fun id b h=> ?_⟩
      ·rcases one id (by rw[h];simp)with e|e
       ·rw[e];exact r.ids.dead id h
       ·exact e
      ·rcases one id (by rw[h];simp)with e|e
       ·rw[e];exact r.ids.nil id h
       ·exact .inr e
      ·rcases one id (by rw[h];simp)with e|e
       ·rw[e];exact r.ids.at_ id b h
       ·exact .inr e
    exact⟨_,hrun,hend⟩
  ·cases he
end
end
section
mutual
def aI.back (l:List Nat):aI→aI
 |.ptr id i es j=> .ptr (l.getD id 0) i es j
 |.sl id o len es cap=> .sl (l.getD id 0) o len es cap
 |.fn f caps=> .fn f (lM l caps)
 |x=>x
def lM (l:List Nat):List aI→List aI
 |[]=>[]
 |x::r=>x.back l::lM l r
end
mutual
def AV.back (l:List Nat):AV→AV
 |.any=> .any
 |.c x=> .c (x.back l)
 |.agg cs=> .agg (lM l cs)
 |.tup vs=> .tup (qB l vs)
def qB (l:List Nat):List AV→List AV
 |[]=>[]
 |x::r=>x.back l::qB l r
end
def aV.back (l:List Nat):aV→aV
 |.live (.cells cs)=> .live (.cells (lM l cs))
 |s=>s
mutual
def aI.vfree:aI→Bool
 |.vptr .. =>false
 |.view .. =>false
 |.fn _ l=>pS l
 |_=>true
def pS:List aI→Bool
 |[]=>true
 |x::r=>x.vfree&&pS r
end
mutual
def AV.vfree:AV→Bool
 |.any=>true
 |.c x=>x.vfree
 |.agg cs=>pS cs
 |.tup vs=>vB vs
def vB:List AV→Bool
 |[]=>true
 |x::r=>x.vfree&&vB r
end
def aV.vfree:aV→Bool
 |.live (.ivs ..)=>false
 |.live (.typ ..)=>false
 |.live (.recs ..)=>false
 |.live (.cells cs)=>pS cs
 |_=>true
def aV.plain:aV→Bool
 |.live (.recs ..)=>false
 |_=>true
theorem iX (l:List Nat): ∀(cs:List aI) (i:Nat),(lM l cs).getD i .any=(cs.getD i .any).back l
 |[],i=>by simp[lM,aI.back]
 |x::r,0=>by simp[lM]
 |x::r,i+1=>by simpa [lM]using iX l r i
theorem dB (l:List Nat): ∀cs:List aI,(lM l cs).length=cs.length
 |[]=>rfl
 |x::r=>by simp[lM,dB l r]
theorem sQ (l:List Nat): ∀(vs:List AV) (i:Nat),(qB l vs).getD i (.tup [])=(vs.getD i (.tup [])).back l
 |[],i=>by simp[qB,AV.back]
 |x::r,0=>by simp[qB]
 |x::r,i+1=>by simpa [qB]using sQ l r i
theorem iY (l:List Nat): ∀cs:List AV,(qB l cs).length=cs.length
 |[]=>rfl
 |x::r=>by simp[qB,iY l r]
theorem i6: ∀ {cs:List aI},pS cs=true→ ∀i,(cs.getD i .any).vfree=true
 |[],_,i=>by simp[aI.vfree]
 |x::r,h,i=>by
  simp only[pS,Bool.and_eq_true,rpS]at h
  cases i with
  |zero=>simpa using h.1
  |succ i=>simpa using i6 h.2 i
theorem qX: ∀ {cs:List AV},vB cs=true→ ∀i,(cs.getD i (.tup [])).vfree=true
 |[],_,i=>by simp[AV.vfree,vB]
 |x::r,h,i=>by
  simp only[vB,Bool.and_eq_true,rpS]at h
  cases i with
  |zero=>simpa using h.1
  |succ i=>simpa using qX h.2 i
def FP (l:List Nat) (ρ1 ρ':Rho):Prop:= ∀k,ρ1 k≠ .unborn→ρ' (l.getD k 0)=ρ1 k
theorem CR0.back {w:World} {L L':Nat→Prop} {l:List Nat} {ρ:Rho} {c:aI} {v:Value} (h:CR0 w L ρ c v):
  ∀ {ρ':Rho},((∀b,L' b→L b)∨c.vfree=true)→FP l ρ ρ'→CR0 w L' ρ' (c.back l) v:=by
 induction h with
 |any v h=>exact fun _ _=> .any v h
 |int k n=>exact fun _ _=> .int k n
 |bool b=>exact fun _ _=> .bool b
 |str s=>exact fun _ _=> .str s
 |nilp=>exact fun _ _=> .nilp
 |nils=>exact fun _ _=> .nils
 |nilf=>exact fun _ _=> .nilf
 |ptrDead id i es j v hd h=>exact fun _ hb=> .ptrDead _ i es j v (by rw[hb id (by rw[hd];simp),hd]) h
 |ptr id i es j b hb=>exact fun _ h=> .ptr _ i es j b (by rw[h id (by rw[hb];simp),hb])
 |slDead id o len es cap v hd h=>exact fun _ hb=> .slDead _ o len es cap v (by rw[hb id (by rw[hd];simp),hd]) h
 |sl id o len es cap b c ty n hb hs hn hl hc=>exact fun _ h=> .sl _ o len es cap b c ty n (by rw[h id (by rw[hb];simp),hb]) hs hn hl hc
 |slNone id o es cap a h1 hc=>exact fun _ h=> .slNone _ o es cap a (by rw[h id h1];exact h1) hc
 |vptr c i es j b base u hl hc hu ih=>
  intro ρ' hL _
  rcases hL with hL|hL
  ·have mb:cY w _ w L':=⟨fun _ _ _=>rfl,fun _ _=>rfl,Nat.le_refl _,fun b hb=> .inl (hL b hb)⟩
   exact .vptr c i es j b base u (fun h0 hb=>hl h0 (hL b hb)) hc (fun q hq=>(hu q hq).mono mb (.refl _))
  ·simp[aI.vfree]at hL
 |view nl c len es cap b base k u hl hc hu hz hk hcap hnl ih=>
  intro ρ' hL _
  rcases hL with hL|hL
  ·have mb:cY w _ w L':=⟨fun _ _ _=>rfl,fun _ _=>rfl,Nat.le_refl _,fun b hb=> .inl (hL b hb)⟩
   exact .view nl c len es cap b base k u (fun h0 hb=>hl h0 (hL b hb)) hc (fun q hq=>(hu q hq).mono mb (.refl _)) hz hk hcap hnl
  ·simp[aI.vfree]at hL
 |viewNone nl c es cap a k hz hcap hnl hk=>exact fun _ _=> .viewNone nl c es cap a k hz hcap hnl hk
 |fn f caps vs hs h ih=>
  intro ρ' hL hr
  simp only[aI.back]
  refine .fn f _ vs (by rw[dB];exact hs) fun i hi=> ?_
  rw[dB]at hi
  rw[iX]
  refine ih i hi (hL.imp id fun h=> ?_) hr
  simp only[aI.vfree]at h
  exact i6 h i
theorem AVR.back {X Y:Nat→Prop} {w:World} {ρ ρ':Rho} {l:List Nat} (hr:FP l ρ ρ') {x:AV} {v:Value} (h:AVR X w ρ x v):
  ((∀b,(b9 ρ' b∨Y b)→(b9 ρ b∨X b))∨x.vfree=true)→AVR Y w ρ' (x.back l) v:=by
 induction h with
 |any v=>exact fun _=> .any v
 |c x v h=>exact fun hL=> .c _ _ (CR0.back h (hL.imp id fun h=>by simpa [AV.vfree]using h) hr)
 |agg cs vs hs h=>
  intro hL
  simp only[AV.back]
  refine .agg _ _ (by rw[dB];exact hs) fun i hi=> ?_
  rw[dB]at hi;rw[iX]
  exact CR0.back (h i hi) (hL.imp id fun h=>i6 (by simpa [AV.vfree]using h) i) hr
 |tup cs vs hs h ih=>
  intro hL
  simp only[AV.back]
  refine .tup _ _ (by rw[iY];exact hs) fun i hi=> ?_
  rw[iY]at hi;rw[sQ]
  exact ih i hi (hL.imp id fun h=>qX (by simpa [AV.vfree]using h) i)
theorem aI.back_free: ∀ {c:aI} {l:List Nat},c.ids=[]→(∀f cs,c≠ .fn f cs)→c.back l=c:=by
 intro c l h hf
 cases c<;>first|rfl|exact absurd rfl (hf _ _)|simp[aI.ids]at h
theorem NE (τ:Ty) (xs:List τ.car) (q:Nat): ∀f cs,(Con.typ τ xs).cell q≠ .fn f cs:=by
 intro f cs h
 simp only[Con.cell]at h
 have hq:=Nat.mod_lt q τ.es_pos
 revert h hq
 generalize q%τ.es=r
 intro h hq
 cases τ with
 |str=>match r,hq with|0,_=>cases h
 |pk=>match r,hq with
  |0,_=>cases h
  |1,_=>cases h
  |2,_=>cases h
  |3,_=>cases h
  |4,_=>cases h
  |5,_=>cases h
  |6,_=>cases h
  |7,_=>cases h
 |itm=>match r,hq with
  |0,_=>cases h
  |1,_=>cases h
 |evt=>match r,hq with
  |0,_=>cases h
  |1,_=>cases h
  |2,_=>cases h
  |3,_=>cases h
theorem eO.back {X Y:Nat→Prop} {w:World} {ρ ρ':Rho} {l:List Nat} (hr:FP l ρ ρ') {s:aV} {x:Wh} (hp:s.plain=true) (h:eO X w ρ s x)
  (hL:(∀b,(b9 ρ' b∨Y b)→(b9 ρ b∨X b))∨s.vfree=true):eO Y w ρ' (s.back l) x:=by
 cases s with
 |unborn=>cases x<;>exact h
 |dead=>cases x<;>exact h
 |live c=>
  have flat:(∀q,((c.cell q).back l)=c.cell q)→((∀b,(b9 ρ' b∨Y b)→(b9 ρ b∨X b))∨ ∀q,(c.cell q).vfree=true)→eO Y w ρ' (.live c) x:=by
   intro hb hv
   cases x with
   |unborn=>exact h
   |dead=>exact h
   |nil=>exact h
   |row b=>
    obtain⟨cs,ty,e,h1,h2⟩:=h
    refine⟨cs,ty,e,h1,fun q hq=> ?_⟩
    have:=CR0.back (l:=l) (L':=fun b=>b9 ρ' b∨Y b) (h2 q hq) (hv.imp id fun h=>h q) hr
    rwa[hb q]at this
  cases c with
  |recs=>simp[aV.plain]at hp
  |ints k xs=>exact flat (fun q=>by simp[Con.cell,aI.back]) (.inr fun q=>by simp[Con.cell,aI.vfree])
  |bools xs=>exact flat (fun q=>by simp[Con.cell,aI.back]) (.inr fun q=>by simp[Con.cell,aI.vfree])
  |ivs k xss=>exact flat (fun q=>by simp[Con.cell,aI.back]) (hL.imp id fun h=>by simp[aV.vfree]at h)
  |typ τ xs=>exact flat (fun q=>aI.back_free (eM (c:=.typ τ xs) rfl q) (NE τ xs q)) (hL.imp id fun h=>by simp[aV.vfree]at h)
  |cells cs=>
   simp only[aV.back]
   cases x with
   |unborn=>exact h
   |dead=>exact h
   |nil=>simp only[eO,Con.size,dB]at h⊢;exact h
   |row b=>
    obtain⟨vs,ty,e,h1,h2⟩:=h
    refine⟨vs,ty,e,by simpa [Con.size,dB]using h1,fun q hq=> ?_⟩
    simp only[Con.size,dB]at hq
    simp only[Con.cell]
    rw[iX]
    exact CR0.back (h2 q hq) (hL.imp id fun h=>i6 (by simpa [aV.vfree]using h) q) hr
def vwC (get:Get):aI→Option (aI×List Bool)
 |.sl id 0 len es cap=>match get id with
  |.live c=>bif c.free then some (.view none c len es cap,[decide (ix len es 0=c.size)])else none
  |_=>none
 |.sl id o len es cap=>match get id with
  |.live c=>bif c.free then(c.sub es (some o) none).map fun c'=>(.view none c' len es cap,[decide (ix (o+len) es 0=c.size)])else none
  |_=>none
 |.ptr id i es j=>match get id with
  |.live c=>bif c.free then some (.vptr c i es j,[])else none
  |_=>none
 |_=>none
def cvC (get:Get) (roots:List Nat) (x:aI):Option (aI×List Bool×Bool):=
 bif x.ids.all roots.elem then some (x.ren roots,[],false)else(vwC get x).map fun(y,o)=>(y,o,true)
def cvL (get:Get) (roots:List Nat):List aI→Option (List aI×List Bool×Bool)
 |[]=>some ([],[],false)
 |x::r=>match cvC get roots x,cvL get roots r with
  |some (y,o,b),some (ys,o',b')=>some (y::ys,o++o',b||b')
  |_,_=>none
def cvA (get:Get) (roots:List Nat):AV→Option (AV×List Bool×Bool)
 |.any=>some (.any,[],false)
 |.c x=>(cvC get roots x).map fun(y,o,b)=>(.c y,o,b)
 |.agg cs=>(cvL get roots cs).map fun(y,o,b)=>(.agg y,o,b)
 |.tup _=>none
def G9 (get:Get) (roots:List Nat):List AV→Option (List AV×List Bool×Bool)
 |[]=>some ([],[],false)
 |x::r=>match cvA get roots x,G9 get roots r with
  |some (y,o,b),some (ys,o',b')=>some (y::ys,o++o',b||b')
  |_,_=>none
def JO (l:List Nat):List Nat→List aV→List (Nat×aV)
 |x::t,s::r=>(x,s.back l)::JO l t r
 |_,_=>[]
abbrev aO:=List AV→List aV→Option (AV×List aV×List Bool)
def EQ (get:Get) (id:Nat):Bool:=hO get id&&(get id).plain
def LK (F:aO) (roots:List Nat) (args:List AV) (get:Get) (base:Nat):Option Eff:=
 bif cS roots&&roots.all (EQ get)then
  match G9 get roots args with
  |none=>none
  |some (cargs,o,vd)=>
   match F cargs (roots.map fun id=>(get id).ren roots)with
   |none=>none
   |some (res,h1,o')=>
    bif Nat.ble roots.length h1.length&&Nat.ble h1.length (roots.length+8)&&(!vd||(res.vfree&&h1.all aV.vfree))&&h1.all aV.plain then
     some {val:=res.back (roots++cM 8 base),sets:=JO (roots++cM 8 base) (roots++cM 8 base) h1,obl:=o++o'}
    else none
 else none
def aR (P:Program) (f:FuncId) (F:aO):Prop:= ∀args h res h' o,F args h=some (res,h',o)→(∀b∈o,b=true)→bF P f args h res h'
end
section
theorem idx?_none: ∀ {l:List Nat} {id:Nat},idx? l id=none→id∉l
 |[],id,_=>by simp
 |x::r,id,h=>by
  simp only[idx?]at h
  split at h
  ·cases h
  ·rename_i e
   simp only[Option.map_eq_none_iff]at h
   intro hm
   rcases List.mem_cons.1 hm with hm|hm
   ·exact e hm.symm
   ·exact idx?_none h hm
theorem idx?_some {l:List Nat} {id k:Nat} (hn:cS l=true) (h:l[k]? =some id):idx? l id=some k:=by
 cases hi:idx? l id with
 |none=>exact absurd (List.mem_of_getElem? h) (idx?_none hi)
 |some j=>rw[kZ hn (idx?_spec hi) h]
theorem uL: ∀(n k i:Nat),(cM n k)[i]? =if i<n then some (k+i)else none
 |0,k,i=>by simp[cM]
 |n+1,k,0=>by simp[cM]
 |n+1,k,i+1=>by
  simp only[cM,List.getElem?_cons_succ,uL n (k+1) i,Nat.add_lt_add_iff_right]
  split
  ·congr 1;omega
  ·rfl
theorem uM: ∀(n k:Nat),(cM n k).length=n
 |0,_=>rfl
 |n+1,k=>by simp[cM,uM n]
theorem MC {l:List Nat} (h: ∀(i j x:Nat),l[i]? =some x→l[j]? =some x→i=j):cS l=true:=by
 induction l with
 |nil=>rfl
 |cons y r ih=>
  simp only[cS,Bool.and_eq_true,rpS,Bool.not_eq_true']
  refine⟨?_,ih fun i j x hi hj=> ?_⟩
  ·cases hc:r.elem y with
   |false=>rfl
   |true=>
    have:y∈r:=by simpa using hc
    obtain⟨i,hi⟩:=List.getElem?_of_mem this
    have:=h 0 (i+1) y (by simp) (by simpa using hi)
    omega
  ·have:=h (i+1) (j+1) x (by simpa using hi) (by simpa using hj)
   omega
theorem BY (l:List Nat): ∀(t:List Nat) (hs:List aV) (h:List aV) (id:Nat),cS t=true→(∀x∈t,x<h.length)→
  Heap.get (cZ h (JO l t hs)) id=match idx? t id with
   |some k=>if k<hs.length then(Heap.get hs k).back l else Heap.get h id
   |none=>Heap.get h id
 |[],hs,h,id,_,_=>by simp[JO,cZ,idx?]
 |x::t,[],h,id,_,_=>by
  simp only[JO,cZ]
  split<;>simp
 |x::t,s::r,h,id,hn,hl=>by
  have hx:=hl x List.mem_cons_self
  simp only[cS,Bool.and_eq_true,rpS,Bool.not_eq_true']at hn
  have hxt:x∉t:=fun hm=>by rw[List.elem_eq_true_of_mem hm]at hn;cases hn.1
  simp only[JO,cZ]
  rw[BY l t r (h.set x (s.back l)) id hn.2 (fun y hy=>by simpa using hl y (List.mem_cons_of_mem _ hy)),Heap.get_set]
  simp only[idx?]
  by_cases e:x=id
  ·subst e
   have:idx? t x=none:=by
    cases hi:idx? t x with
    |none=>rfl
    |some k=>exact absurd (List.mem_of_getElem? (idx?_spec hi)) hxt
   rw[this]
   simp[hx,Heap.get]
  ·rw[if_neg e]
   have e': ¬id=x:=fun h=>e h.symm
   cases hi:idx? t id with
   |none=>simp[e']
   |some k=>
    simp only[Option.map_some,List.length_cons,Nat.add_lt_add_iff_right]
    split
    ·simp[Heap.get]
    ·simp[e']
theorem wD {X Y:Nat→Prop} {w0 w:World} {M:Nat→Prop} {h:List aV} {ρ ρ0:Rho} (m:Mem X w0 M h ρ w) {get:Get} (hg: ∀id c,get id=.live c→Heap.get h id=.live c) {roots:List Nat}
  (hr:kQ roots ρ ρ0) (hb: ∀k b,ρ0 k=.row b→ ∃id,roots[k]? =some id∧ρ id=.row b) {x y:aI} {o:List Bool} {vd:Bool} {v:Value} (hc:cvC get roots x=some (y,o,vd)) (ho: ∀b∈o,b=true)
  (hL: ∀b,(b9 ρ0 b∨Y b)→(b9 ρ b∨X b)) (hv:vd=true→ ∀b, ¬Y b) (hx:CR X w ρ x v):CR Y w ρ0 y v:=by
 unfold cvC at hc
 cases ha:x.ids.all roots.elem with
 |true=>
  rw[ha]at hc
  injection hc with hc;injection hc with h1 h2;subst h1
  exact CR0.ren hL hx hr
 |false=>
  rw[ha]at hc
  obtain⟨⟨y',o'⟩,h1,h2⟩:=Option.map_eq_some_iff.1 hc
  injection h2 with h2 h3;injection h3 with h3 h4;subst h2 h3 h4
  have hY:=hv rfl
  have notL: ∀ {id b},roots.elem id=false→ρ id=.row b→ ¬(b9 ρ0 b∨Y b):=by
   rintro id b hid hrow (⟨k,hk⟩|hyb)
   ·obtain⟨j,j1,j2⟩:=hb k b hk
    have:=m.inj id j b hrow j2
    subst this
    rw[List.elem_eq_true_of_mem (List.mem_of_getElem? j1)]at hid;cases hid
   ·exact hY b hyb
  have mb:cY w (fun b=>b9 ρ b∨X b) w (fun b=>b9 ρ0 b∨Y b):=⟨fun _ _ _=>rfl,fun _ _=>rfl,Nat.le_refl _,fun b hb=> .inl (hL b hb)⟩
  unfold vwC at h1
  split at h1
  ·rename_i id len es cap
   have hid:roots.elem id=false:=by simpa [aI.ids]using ha
   split at h1
   ·rename_i c hs
    cases hfr:c.free with
    |false=>rw[hfr]at h1;cases h1
    |true=>
    rw[hfr]at h1
    injection h1 with h1;injection h1 with e1 e2;subst e1 e2
    have hz:len*es=c.size:=by simpa [dI]using ho _ (List.mem_singleton.2 rfl)
    rcases dQ m (hg _ _ hs) hx with⟨b,k,ty,n,hb',rfl,⟨cs,ty',hrow,hsz,hcs⟩,hsh,hn,hl,hcap⟩|⟨a,rfl,rfl,hcap⟩
    ·rw[Nat.zero_mul]
     refine .view none c len es cap b 0 k (fun q=>cs.getD q undef) (fun _=>notL hid hb') (fun q hq=> ?_) (fun q hq=>((hcs q hq).free (eM hfr q)).mono mb (cC.noIds _)) hz hl hcap (fun _ h=>by cases h)
     have hq':q<cs.size:=by omega
     simp[World.cell?,hrow,Array.getD,hq']
    ·exact .viewNone none c es cap a 0 (by omega) hcap (fun _ h=>by cases h) (fun _=>rfl)
   ·cases h1
  ·rename_i id o len es cap hne
   have hid:roots.elem id=false:=by simpa [aI.ids]using ha
   split at h1
   ·rename_i c hs
    cases hfr:c.free with
    |false=>rw[hfr]at h1;cases h1
    |true=>
    rw[hfr]at h1
    obtain⟨c',g1,g2⟩:=Option.map_eq_some_iff.1 h1
    injection g2 with e1 e2;subst e1 e2
    have hz:(o+len)*es=c.size:=by simpa [dI]using ho _ (List.mem_singleton.2 rfl)
    obtain⟨s1,s2⟩:=pP (len:=o+len) g1 hz (by simp) (by simp)
    simp only[Option.getD_none,Option.getD_some]at s1 s2
    have s1':c'.size=len*es:=by rw[s1];congr 1;omega
    rcases dQ m (hg _ _ hs) hx with⟨b,k,ty,n,hb',rfl,⟨cs,ty',hrow,hsz,hcs⟩,hsh,hn,hl,hcap⟩|⟨a,rfl,rfl,hcap⟩
    ·have hin: ∀q,q<c'.size→o*es+q<c.size:=fun q hq=>by
      rw[s1']at hq;rw[←hz,Nat.add_mul];omega
     refine .view none c' len es cap b (o*es) k (fun q=>cs.getD (o*es+q) undef) (fun _=>notL hid hb') (fun q hq=> ?_) (fun q hq=> ?_) s1'.symm hl hcap (fun _ h=>by cases h)
     ·have hq':o*es+q<cs.size:=by have:=hin q hq;omega
      simp[World.cell?,hrow,Array.getD,hq']
     ·rw[s2 q hq]
      exact((hcs _ (hin q hq)).free (eM hfr _)).mono mb (cC.noIds _)
    ·exact .viewNone none c' es cap a 0 (by rw[s1',Nat.zero_mul]) hcap (fun _ h=>by cases h) (fun _=>rfl)
   ·cases h1
  ·rename_i id i es j
   have hid:roots.elem id=false:=by simpa [aI.ids]using ha
   split at h1
   ·rename_i c hs
    cases hfr:c.free with
    |false=>rw[hfr]at h1;cases h1
    |true=>
    rw[hfr]at h1
    injection h1 with h1;injection h1 with e1 e2;subst e1 e2
    obtain⟨b,hb',rfl,cs,ty,hrow,hsz,hcs⟩:=gO m (hg _ _ hs) hx
    have:=CR0.vptr (w:=w) (L:=fun b=>b9 ρ0 b∨Y b) (ρ:=ρ0) c i es j b 0 (fun q=>cs.getD q undef) (fun _=>notL hid hb') (fun q hq=>by
      have hq':q<cs.size:=by omega
      simp[World.cell?,hrow,Array.getD,hq']) (fun q hq=>((hcs q hq).free (eM hfr q)).mono mb (cC.noIds _))
    simpa using this
   ·cases h1
  ·cases h1
end
section
section
variable {X Y : Nat → Prop} {w0 w : World} {M : Nat → Prop} {h : List aV} {ρ ρ0 : Rho} (m : Mem X w0 M h ρ w) {get : Get} (hg : ∀ id c, get id = .live c → Heap.get h id = .live c) {roots : List Nat}
 (hr:kQ roots ρ ρ0) (hb: ∀(k b:Nat),ρ0 k=.row b→ ∃id:Nat,roots[k]? =some id∧ρ id=.row b) (hL: ∀b,(b9 ρ0 b∨Y b)→(b9 ρ b∨X b))
include m hg hr hb hL
theorem wE: ∀ {l l':List aI} {o:List Bool} {vd:Bool} (f:Nat→Value),cvL get roots l=some (l',o,vd)→(∀b∈o,b=true)→(vd=true→ ∀b, ¬Y b)→
  (∀q,q<l.length→CR X w ρ (l.getD q .any) (f q))→l'.length=l.length∧ ∀q,q<l.length→CR Y w ρ0 (l'.getD q .any) (f q)
 |[],l',o,vd,f,hc,_,_,_=>by
  injection hc with hc;injection hc with h1 h2;subst h1
  exact⟨rfl,fun q hq=>by simp at hq⟩
 |x::r,l',o,vd,f,hc,ho,hv,hx=>by
  simp only[cvL]at hc
  split at hc
  ·rename_i y o1 b ys o2 b' e1 e2
   injection hc with hc;injection hc with h1 h2;injection h2 with h2 h3;subst h1 h2 h3
   obtain⟨g1,g2⟩:=wE (fun q=>f (q+1)) e2 (fun b hb=>ho b (List.mem_append_right _ hb)) (fun h=>hv (by simp[h])) (fun q hq=>by simpa using hx (q+1) (by simpa using hq))
   refine⟨by simp[g1],fun q hq=> ?_⟩
   cases q with
   |zero=>simpa using wD m hg hr hb e1 (fun b hb=>ho b (List.mem_append_left _ hb)) hL (fun h=>hv (by simp[h])) (by simpa using hx 0 (by simp))
   |succ q=>simpa using g2 q (by simpa using hq)
  ·cases hc
theorem HG {x y:AV} {o:List Bool} {vd:Bool} {v:Value} (hc:cvA get roots x=some (y,o,vd)) (ho: ∀b∈o,b=true) (hv:vd=true→ ∀b, ¬Y b) (hx:AVR X w ρ x v):AVR Y w ρ0 y v:=by
 cases hx with
 |any v=>injection hc with hc;injection hc with h1 h2;subst h1;exact .any v
 |c x v hx=>
  obtain⟨⟨y',o',b⟩,h1,h2⟩:=Option.map_eq_some_iff.1 hc
  injection h2 with h2 h3;injection h3 with h3 h4;subst h2 h3 h4
  exact .c _ _ (wD m hg hr hb h1 ho hL hv hx)
 |agg cs vs hs hx=>
  obtain⟨⟨y',o',b⟩,h1,h2⟩:=Option.map_eq_some_iff.1 hc
  injection h2 with h2 h3;injection h3 with h3 h4;subst h2 h3 h4
  obtain⟨g1,g2⟩:=wE m hg hr hb hL (fun q=>vs.getD q undef) h1 ho hv hx
  exact .agg _ _ (by rw[g1,hs]) fun i hi=>g2 i (by rw[←g1];exact hi)
 |tup l vs hs hx=>cases hc
theorem qD: ∀ {l l':List AV} {o:List Bool} {vd:Bool} (f:Nat→Value),G9 get roots l=some (l',o,vd)→(∀b∈o,b=true)→(vd=true→ ∀b, ¬Y b)→
  (∀q,q<l.length→AVR X w ρ (l.getD q .any) (f q))→l'.length=l.length∧ ∀q,q<l.length→AVR Y w ρ0 (l'.getD q .any) (f q)
 |[],l',o,vd,f,hc,_,_,_=>by
  injection hc with hc;injection hc with h1 h2;subst h1
  exact⟨rfl,fun q hq=>by simp at hq⟩
 |x::r,l',o,vd,f,hc,ho,hv,hx=>by
  simp only[G9]at hc
  split at hc
  ·rename_i y o1 b ys o2 b' e1 e2
   injection hc with hc;injection hc with h1 h2;injection h2 with h2 h3;subst h1 h2 h3
   obtain⟨g1,g2⟩:=qD (fun q=>f (q+1)) e2 (fun b hb=>ho b (List.mem_append_right _ hb)) (fun h=>hv (by simp[h])) (fun q hq=>by simpa using hx (q+1) (by simpa using hq))
   refine⟨by simp[g1],fun q hq=> ?_⟩
   cases q with
   |zero=>simpa using HG m hg hr hb hL e1 (fun b hb=>ho b (List.mem_append_left _ hb)) (fun h=>hv (by simp[h])) (by simpa using hx 0 (by simp))
   |succ q=>simpa using g2 q (by simpa using hq)
  ·cases hc
end
theorem FV {p:aV→Bool} (hp:p .unborn=true) {h:List aV} (ha:h.all p=true) (k:Nat):p (Heap.get h k)=true:=by
 rcases Nat.lt_or_ge k h.length with hk|hk
 ·have:Heap.get h k=h[k]:=by simp[Heap.get,hk]
  rw[this];exact List.all_eq_true.1 ha _ (List.getElem_mem hk)
 ·rw[Heap.get_ge hk];exact hp
theorem AR {P:Program} {f:FuncId} {F:aO} (hF:aR P f F)
  {roots:List Nat} {args:List AV} {get:Get} {base:Nat} {e:Eff} (he:LK F roots args get base=some e) (ho: ∀b∈e.obl,b=true):w7 P f args get base e:=by
 unfold LK at he
 cases hc:cS roots&&roots.all (EQ get)with
 |false=>rw[hc]at he;cases he
 |true=>
 rw[hc]at he
 simp only[cond_true]at he
 simp only[Bool.and_eq_true,rpS,List.all_eq_true]at hc
 obtain⟨hnd,hok⟩:=hc
 split at he
 ·cases he
 rename_i cargs o vd hcv
 split at he
 ·cases he
 rename_i res h1 o' hmod
 cases hc:Nat.ble roots.length h1.length&&Nat.ble h1.length (roots.length+8)&&(!vd||(res.vfree&&h1.all aV.vfree))&&h1.all aV.plain with
 |false=>rw[hc]at he;cases he
 |true=>
 rw[hc]at he
 simp only[cond_true,Option.some.injEq]at he
 subst he
 simp only[Bool.and_eq_true,rpS,Nat.ble_eq]at hc
 obtain⟨⟨⟨hml,hmh⟩,hvf⟩,hplain⟩:=hc
 refine⟨(hF _ _ _ _ _ hmod (fun b hb=>ho b (List.mem_append_right _ hb))).1, ?_⟩
 intro X w0 w M h ρ mm hg hbase vs hvl hva
 dsimp only at ho
 have hlive: ∀(k id:Nat),roots[k]? =some id→ ∃c,get id=.live c∧Heap.get h id=.live c∧ ∀e n g,c≠ .recs e n g:=by
  intro k id hk
  have:=hok id (List.mem_of_getElem? hk)
  simp only[EQ,Bool.and_eq_true,rpS,hO]at this
  cases hgi:get id with
  |live c=>rw[hgi]at this;exact⟨c,rfl,hg _ _ hgi,fun e n g hc=>by subst hc;simp[aV.plain]at this⟩
  |unborn=>rw[hgi]at this;simp at this
  |dead=>rw[hgi]at this;simp at this
 have hρ0: ∀(k id:Nat),roots[k]? =some id→cE h roots ρ k=ρ id:=by
  intro k id hk
  obtain⟨c,_,h2,h3⟩:=hlive k id hk
  unfold cE;rw[hk];dsimp only;rw[h2]
  cases c with
  |recs e n g=>exact absurd rfl (h3 e n g)
  |_=>rfl
 have hρ0n: ∀(k:Nat),roots[k]? =none→cE h roots ρ k=.unborn:=by
  intro k hk;unfold cE;rw[hk]
 generalize hr0:cE h roots ρ=ρ0 at*
 have hren:kQ roots ρ ρ0:=by rw[←hr0];exact eG _ _ _
 have hrow: ∀(k b:Nat),ρ0 k=.row b→ ∃id:Nat,roots[k]? =some id∧ρ id=.row b:=fun k b hk=>by rw[←hr0]at hk;exact fO hk
 have hlv0: ∀b,b9 ρ0 b→b9 ρ b:=fun b ⟨k,hk⟩=>by obtain⟨id,_,h2⟩:=hrow k b hk;exact⟨id,h2⟩
 let Y:Nat→Prop:=fun b=>vd=false∧(b9 ρ b∨X b)∧ ¬b9 ρ0 b
 have hL: ∀b,(b9 ρ0 b∨Y b)→(b9 ρ b∨X b):=fun b hb=>hb.elim (fun h'=> .inl (hlv0 b h')) (fun h'=>h'.2.1)
 have hmap:(roots.map fun id=>(get id).ren roots)=roots.map fun id=>(Heap.get h id).ren roots:=by
  apply List.map_congr_left
  intro id hid
  obtain⟨k,hk⟩:=List.getElem?_of_mem hid
  obtain⟨c,c1,c2,_⟩:=hlive k id hk
  rw[c1,c2]
 rw[hmap]at hmod
 have m0:Mem Y w (b9 ρ0) (roots.map fun id=>(Heap.get h id).ren roots) ρ0 w:=by
  refine⟨fun k=> ?_,fun i j b hi hj=> ?_,fun k b hk=> .inr ⟨k,hk⟩,rfl,rfl,rfl,Nat.le_refl _,fun _ _ _=>rfl,fun b hb=>⟨?_,hb.2.2⟩⟩
  ·have:=mm.slot_ren (l:=roots) (Y:=Y) (fun b hb=>hb.2.1) k
   rw[hr0]at this;exact this
  ·have:=(mm.ren hnd).inj
   rw[hr0]at this;exact this i j b hi hj
  ·rcases hb.2.1 with⟨id,h'⟩|h'
   ·exact mm.lt h'
   ·have:=(mm.foreign b h').1;have:=mm.size;omega
 obtain⟨hcl,hca⟩:=qD mm hg hren hrow hL (fun q=>vs.getD q undef) hcv (fun b hb=>ho b (List.mem_append_left _ hb)) (fun hv b hb=>by rw[hb.1]at hv;cases hv) hva
 have hcall:=(hF _ _ _ _ _ hmod (fun b hb=>ho b (List.mem_append_right _ hb))).2 m0 vs (by rw[hcl,hvl]) (fun q hq=>hca q (by rw[←hcl];exact hq))
 refine Calls.mono hcall ?_
 rintro e' w' ⟨v,ρ1,rfl,mb,im,m1,hv⟩
 have hunb: ∀i,i<8→ρ (base+i)=.unborn:=by
  intro i hi
  have hs:=mm.slot (base+i);rw[(hbase i hi).1]at hs
  cases hx:ρ (base+i)<;>rw[hx]at hs<;>first|rfl|exact hs.elim
 have htl:(roots++cM 8 base).length=roots.length+8:=by simp[uM]
 have htg1: ∀(k id:Nat),roots[k]? =some id→(roots++cM 8 base)[k]? =some id:=by
  intro k id hk
  rw[List.getElem?_append_left (List.getElem?_eq_some_iff.1 hk).1];exact hk
 have htg: ∀(k id:Nat),(roots++cM 8 base)[k]? =some id→roots[k]? =some id∨(roots.length≤k∧ ∃i,i<8∧id=base+i∧k=roots.length+i):=by
  intro k id hk
  rw[List.getElem?_append]at hk
  split at hk
  ·exact .inl hk
  ·rename_i hge
   rw[uL]at hk
   split at hk
   ·rename_i hi
    injection hk with hk
    exact .inr ⟨by omega,_,hi,hk.symm,by omega⟩
   ·cases hk
 have hnt:cS (roots++cM 8 base)=true:=by
  refine MC fun i j x hi hj=> ?_
  have no: ∀(k i':Nat),i'<8→roots[k]? =some (base+i')→False:=fun k i' hi' hk=>by
   obtain⟨c,_,c2,_⟩:=hlive k _ hk
   rw[(hbase i' hi').1]at c2;cases c2
  rcases htg i x hi with hi'|⟨_,i',i1,i2,i3⟩<;>rcases htg j x hj with hj'|⟨_,j',j1,j2,j3⟩
  ·exact kZ hnd hi' hj'
  ·subst j2;exact(no i j' j1 hi').elim
  ·subst i2;exact(no j i' i1 hj').elim
  ·omega
 generalize htdef:roots++cM 8 base=T at*
 have hidx: ∀(k id:Nat),T[k]? =some id↔idx? T id=some k:=fun k id=>⟨fun h=>idx?_some hnt h,idx?_spec⟩
 let ρ':Rho:=fun id=>match idx? T id with
  |some k=>ρ1 k
  |none=>ρ id
 have hin: ∀(k id:Nat),T[k]? =some id→ρ' id=ρ1 k:=fun k id hk=>by
  show(match idx? T id with|some k=>ρ1 k|none=>ρ id)=ρ1 k
  rw[(hidx k id).1 hk]
 have hout: ∀id,idx? T id=none→ρ' id=ρ id:=fun id hk=>by
  show(match idx? T id with|some k=>ρ1 k|none=>ρ id)=ρ id
  rw[hk]
 have hk1: ∀k,ρ1 k≠ .unborn→k<h1.length:=by
  intro k hk
  rcases Nat.lt_or_ge k h1.length with h'|h'
  ·exact h'
  ·have hs:=m1.slot k;rw[Heap.get_ge h']at hs
   cases hx:ρ1 k<;>rw[hx]at hs<;>first|exact absurd hx hk|exact hs.elim
 have hbacks:FP T ρ1 ρ':=by
  intro k hk
  have hlt:=hk1 k hk
  have hkT:k<T.length:=by omega
  have:T[k]? =some (T.getD k 0):=by simp[List.getD_eq_getElem?_getD,List.getElem?_eq_getElem hkT]
  exact hin k _ this
 have hnot0: ∀id b,idx? T id=none→ρ id=.row b→ ¬b9 ρ0 b:=by
  rintro id b hid hb ⟨k,hk⟩
  obtain⟨j,j1,j2⟩:=hrow k b hk
  have:=mm.inj id j b hb j2
  subst this
  rw[(hidx k id).1 (htg1 k id j1)]at hid;cases hid
 have hown1: ∀k b,ρ1 k=.row b→w.heap.size≤b∨b9 ρ b:=fun k b hk=>(m1.own k b hk).imp id (hlv0 b)
 have hmono:bN w ρ w' ρ':=by
  refine⟨fun b hb hl=>m1.keep b hb (fun h'=>hl (hlv0 b h')),mb.shape,mb.size,fun id hd=> ?_,fun id hd=> ?_,fun id b hd=> ?_,fun id b hd=> ?_⟩
  ·cases hi:idx? T id with
   |none=>rw[hout id hi];exact hd
   |some k=>
    have hk:=idx?_spec hi
    rw[hin k id hk]
    rcases htg k id hk with h'|⟨_,i,i1,i2,_⟩
    ·exact im.dead k (by rw[hρ0 k id h'];exact hd)
    ·subst i2;rw[hunb i i1]at hd;cases hd
  ·cases hi:idx? T id with
   |none=>rw[hout id hi];exact .inl hd
   |some k=>
    have hk:=idx?_spec hi
    rw[hin k id hk]
    rcases htg k id hk with h'|⟨_,i,i1,i2,_⟩
    ·exact im.nil k (by rw[hρ0 k id h'];exact hd)
    ·subst i2;rw[hunb i i1]at hd;cases hd
  ·cases hi:idx? T id with
   |none=>rw[hout id hi];exact .inl hd
   |some k=>
    have hk:=idx?_spec hi
    rw[hin k id hk]
    rcases htg k id hk with h'|⟨_,i,i1,i2,_⟩
    ·exact im.at_ k b (by rw[hρ0 k id h'];exact hd)
    ·subst i2;rw[hunb i i1]at hd;cases hd
  ·cases hi:idx? T id with
   |none=>rw[hout id hi]at hd;exact .inl ⟨id,hd⟩
   |some k=>
    rw[hin k id (idx?_spec hi)]at hd
    exact(hown1 k b hd).symm
 have hLb:(∀b,(b9 ρ' b∨X b)→(b9 ρ1 b∨Y b))∨(res.vfree=true∧h1.all aV.vfree=true):=by
  cases hvd:vd with
  |true=>
   rw[hvd]at hvf
   simp only[Bool.not_true,Bool.false_or,Bool.and_eq_true,rpS]at hvf
   exact .inr hvf
  |false=>
   refine .inl fun b hb=> ?_
   rcases hb with⟨id,hid⟩|hx
   ·cases hi:idx? T id with
    |some k=>rw[hin k id (idx?_spec hi)]at hid;exact .inl ⟨k,hid⟩
    |none=>
     rw[hout id hi]at hid
     exact .inr ⟨hvd,.inl ⟨id,hid⟩,hnot0 id b hi hid⟩
   ·refine .inr ⟨hvd,.inr hx,fun⟨k,hk⟩=> ?_⟩
    obtain⟨j,_,j2⟩:=hrow k b hk
    exact mm.notX j2 hx
 refine⟨v,ρ',rfl,hmono,⟨fun id=> ?_,fun i j b hi hj=> ?_,fun id b hd=> ?_,by rw[m1.os,mm.os],by rw[m1.tape,mm.tape],by rw[m1.output,mm.output],Nat.le_trans mm.size m1.size,
  fun k hk hM=> ?_,mm.foreign⟩,AVR.back hbacks hv (hLb.imp id And.left)⟩
 ·have hltT: ∀x∈T,x<h.length:=by
   intro x hx
   obtain⟨k,hk⟩:=List.getElem?_of_mem hx
   rcases htg k x hk with h'|⟨_,i,i1,i2,_⟩
   ·obtain⟨c,_,c2,_⟩:=hlive k x h'
    exact Heap.lt_of_live (by rw[c2];simp)
   ·subst i2;exact(hbase i i1).2
  rw[BY T T h1 h id hnt hltT]
  cases hi:idx? T id with
  |none=>
   rw[hout id hi]
   exact(mm.slot id).mono hmono fun b hb=>m1.keep b (mm.lt hb) (hnot0 id b hi hb)
  |some k=>
   have hk:=idx?_spec hi
   rw[hin k id hk]
   have hback:=eO.back hbacks (Y:=X) (FV rfl hplain k) (m1.slot k) (hLb.imp (fun x=>x) fun h'=>FV rfl h'.2 k)
   dsimp only
   split
   ·exact hback
   ·rename_i hge
    have hge:h1.length≤k:=by omega
    rw[Heap.get_ge hge]at hback
    have:Heap.get h id=.unborn:=by
     rcases htg k id hk with h'|⟨_,i,i1,i2,_⟩
     ·have:=(List.getElem?_eq_some_iff.1 h').1;omega
     ·subst i2;exact(hbase i i1).1
    rw[this];exact hback
 ·cases hi1:idx? T i with
  |some k=>
   rw[hin k i (idx?_spec hi1)]at hi
   cases hj1:idx? T j with
   |some k'=>
    rw[hin k' j (idx?_spec hj1)]at hj
    have:=m1.inj k k' b hi hj
    subst this
    have a1:=idx?_spec hi1;have a2:=idx?_spec hj1
    rw[a1]at a2;injection a2
   |none=>
    rw[hout j hj1]at hj
    rcases m1.own k b hi with h'|h'
    ·have:=mm.lt hj;omega
    ·exact absurd h' (hnot0 j b hj1 hj)
  |none=>
   rw[hout i hi1]at hi
   cases hj1:idx? T j with
   |some k'=>
    rw[hin k' j (idx?_spec hj1)]at hj
    rcases m1.own k' b hj with h'|h'
    ·have:=mm.lt hi;omega
    ·exact absurd h' (hnot0 i b hi1 hi)
   |none=>rw[hout j hj1]at hj;exact mm.inj i j b hi hj
 ·cases hi:idx? T id with
  |none=>rw[hout id hi]at hd;exact mm.own id b hd
  |some k=>
   rw[hin k id (idx?_spec hi)]at hd
   rcases hown1 k b hd with h'|⟨j,hj⟩
   ·have:=mm.size;exact .inl (by omega)
   ·exact mm.own j b hj
 ·rw[m1.keep k (by have:=mm.size;omega) (fun h'=> ?_),mm.keep k hk hM]
  obtain⟨j,hj⟩:=hlv0 k h'
  rcases mm.own j k hj with h''|h''
  ·omega
  ·exact hM h''
end
section
structure aZ where
 f:Nat
 pos:List Nat
 F:aO
def QT (pos:List Nat) (args:List AV) (get:Get):List Nat:=
 let l:=jI [] (pos.flatMap fun p=>(args.getD p .any).ids)
 jI l (l.flatMap fun id=>rV (get id))
def aH:List aZ→CT
 |[]=>fun _ _ _ _=>none
 |e::r=>fun f args get base=>if f=e.f then LK e.F (QT e.pos args get) args get base else aH r f args get base
def aA (P:Program) (l:List aZ):Prop:= ∀e∈l,aR P e.f e.F
theorem aA.nil (P:Program):aA P []:=fun e h=>by cases h
theorem aA.cons {P:Program} {e:aZ} {l:List aZ} (h:aR P e.f e.F) (r:aA P l):aA P (e::l):=by
 intro x hx
 rcases List.mem_cons.1 hx with rfl|hx
 ·exact h
 ·exact r x hx
theorem aA.append {P:Program} {a b:List aZ} (h:aA P a) (r:aA P b):aA P (a++b):=by
 intro x hx
 rcases List.mem_append.1 hx with hx|hx
 ·exact h x hx
 ·exact r x hx
theorem aQ {P:Program}: ∀ {l:List aZ},aA P l→bL P (aH l)
 |[],_=>fun f args get base e h=>by simp[aH]at h
 |x::l,hl=>fun f args get base e h ho=>by
  simp only[aH]at h
  split at h
  ·rename_i e;subst e
   exact AR (hl x List.mem_cons_self) h ho
  ·exact aQ (fun y hy=>hl y (List.mem_cons_of_mem _ hy)) f args get base e h ho
def ZQ (P:Program) (f:FuncId):Prop:= ∃fn,P.funcs[f]? =some fn∧fn.body.isSome=true∧(fn.name== "runtime.NumGoroutine")=false
def aI.lenOk:aI→Prop
 |.view _ c len es _=>len*es=c.size
 |_=>True
def AV.lenOk:AV→Prop
 |.c x=>x.lenOk
 |.agg cs=> ∀x∈cs,x.lenOk
 |_=>True
theorem CR0.lenOk {w:World} {L:Nat→Prop} {ρ:Rho} {c:aI} {v:Value} (h:CR0 w L ρ c v):c.lenOk:=by
 cases h<;>first|trivial|assumption|skip
 rename_i hz _ _ _;simp[aI.lenOk,hz]
theorem AVR.lenOk {X:Nat→Prop} {w:World} {ρ:Rho} {x:AV} {v:Value} (h:AVR X w ρ x v):x.lenOk:=by
 cases h with
 |any=>trivial
 |c x v h=>exact CR0.lenOk h
 |agg cs vs hs h=>
  intro x hx
  obtain⟨i,hi⟩:=List.getElem?_of_mem hx
  have hlt:=(List.getElem?_eq_some_iff.1 hi).1
  have:=CR0.lenOk (h i hlt)
  rw[List.getD_eq_getElem?_getD,hi]at this
  exact this
 |tup=>trivial
theorem bF.len {P:Program} {f:FuncId} {args:List AV} {h:List aV} {res:AV} {h':List aV} (hex:ZQ P f) (hm:(∀x∈args,x.lenOk)→bF P f args h res h'):bF P f args h res h':=by
 refine⟨hex,fun {X w0 ρ0} m vs hl hv=> ?_⟩
 refine(hm fun x hx=> ?_).2 m vs hl hv
 obtain⟨i,hi⟩:=List.getElem?_of_mem hx
 have hlt:=(List.getElem?_eq_some_iff.1 hi).1
 have:=(hv i hlt).lenOk
 rw[List.getD_eq_getElem?_getD,hi]at this
 exact this
end
section
def P9 (x:Nat):List Nat→List Nat
 |[]=>[x]
 |y::r=>bif Nat.blt x y then x::y::r else bif x==y then y::r else y::P9 x r
def uni:List Nat→List Nat→List Nat
 |[],b=>b
 |x::r,b=>P9 x (uni r b)
def del (x:Nat) (l:List Nat):List Nat:=l.filter fun y=> !(x==y)
def SA:Operand→List Nat
 |.tmp t=>[t]
 |_=>[]
def a4W (ops:Array Oper) (o:Oper):List Nat:=
 (cR o).flatMap SA++(match o.guard with
  |some (j,_)=>match(ops[j]?).bind (·.dst)with|some d=>[d]|none=>[]
  |none=>[])
def S5 (ops:Array Oper):List Oper→List Nat→List Nat
 |[],out=>out
 |o::r,out=>
  let l:=S5 ops r out
  let l:=match o.dst with
   |some d=>del d l
   |none=>l
  uni (a4W ops o) l
def exL (ex:List (Nat×List Nat)) (id:Nat):List Nat:=
 match ex with
 |[]=>[]
 |(k,l)::r=>bif k==id then l else exL r id
def lv:Code→List Nat→List (Nat×List Nat)→List Nat→List Nat
 |.ret,_,_,ret=>ret
 |.exit id,_,ex,_=>exL ex id
 |.region _ ops _,out,_,_=>S5 ops ops.toList out
 |.seq a b,out,ex,ret=>lv a (lv b out ex ret) ex ret
 |.cond x a b,out,ex,ret=>uni (SA x) (uni (lv a out ex ret) (lv b out ex ret))
 |.block id c,out,ex,ret=>lv c out ((id,out)::ex) ret
 |.loop c,out,ex,ret=>lv c [] ex ret
 |_,out,_,_=>out
def tA:Code→List Nat
 |.exit id=>[id]
 |.seq a b=>tA a++tA b
 |.cond _ a b=>tA a++tA b
 |.block _ c=>tA c
 |.loop c=>tA c
 |_=>[]
def j9:Code→Bool
 |.ret=>true
 |.seq a b=>j9 a||j9 b
 |.cond _ a b=>j9 a||j9 b
 |.block _ c=>j9 c
 |.loop c=>j9 c
 |_=>false
def lvB (id:Nat):Code→List Nat→List (Nat×List Nat)→List Nat→Option (List Nat×List Nat)
 |.seq a b,out,ex,ret=>match lvB id a (lv b out ex ret) ex ret with
  |some r=>some r
  |none=>lvB id b out ex ret
 |.cond _ a b,out,ex,ret=>match lvB id a out ex ret with
  |some r=>some r
  |none=>lvB id b out ex ret
 |.block k c,out,ex,ret=>bif k==id then some (lv c out ((k,out)::ex) ret,uni out (uni (bif j9 c then ret else []) ((tA c).foldl (fun l k=>uni (exL ex k) l) [])))else lvB id c out ((k,out)::ex) ret
 |.loop c,out,ex,ret=>lvB id c (lv c [] ex ret) ex ret
 |_,_,_,_=>none
def J9:List ResultVar→List Nat
 |[]=>[]
 |.tmp t::r=>P9 t (J9 r)
 |.cell a _::r=>P9 a (J9 r)
def aB (fn:Func):Code:=match fn.body with|some c=>c|none=> .skip
def aE (fn:Func) (id:Nat):List Nat:=match lvB id (aB fn) (J9 fn.results.toList) [] (J9 fn.results.toList)with|some r=>r.1|none=>[]
def aG (fn:Func) (id:Nat):List Nat:=match lvB id (aB fn) (J9 fn.results.toList) [] (J9 fn.results.toList)with|some r=>r.2|none=>[]
def yY:List (Nat×AV)→List AV→List AV
 |[],l=>l
 |(t,v)::r,l=>yY r (l.set t v)
def aS (n:Nat) (l:List (Nat×AV)) (heap:List aV):St:= {tmps:=yY l (List.replicate n .any),heap}
end
section
def tT:Ex→Bool
 |.normal=>true
 |_=>false
def aK (m:Nat) (live liveX:List Nat) (r:Option Out):Option (Ex×Bool×List Prop×St):=
 r.map fun o=>(o.ex,LD o.obl,o.eqs,fit m (bif tT o.ex then live else liveX) o.st)
section
variable {ro : Option Nat} {P : Program} {tt : Tab} (hT : iK P tt) {ct : CT} (hct : bL P ct) (bE : P.follows .mixedOrders = true)
include hT hct bE
theorem aP.roundsR {m id:Nat} {body:Code} {α:Type} (Inv:α→Prop) (I:α→St) (μ:α→Nat) (live liveX:List Nat) (ex:α→Ex) (post:α→St) (lc:α→List (Nat×LC))
  (hlc: ∀x,Inv x→aL ro P m (lc x) body)
  (h: ∀x,Inv x→ ∃n p e b q s,aK m live liveX (aM tt ct (lc x) m n body (I x) p)=some (e,b,q,s)∧b=true∧(∀x∈q,x)∧
   ((e=.normal∧ ∃y,Inv y∧μ y<μ x∧s=I y∧ex y=ex x∧post y=post x)∨(e=.exit id∧ex x=.normal∧s=post x)∨(e≠ .normal∧e≠ .exit id∧ex x=e∧s=post x))):
  ∀x,Inv x→aP ro P m (.block id (.loop body)) (I x) fun e t=>e=ex x∧t=post x:=by
 refine aP.rounds hT hct bE Inv I μ live liveX ex post lc hlc fun x hx=> ?_
 obtain⟨n,p,e,b,q,s,hr,hb,hq,hc⟩:=h x hx
 obtain⟨o,ho,h1⟩:=Option.map_eq_some_iff.1 hr
 simp only[Prod.mk.injEq]at h1
 obtain⟨rfl,rfl,rfl,rfl⟩:=h1
 refine⟨n,p,o,ho,kR hb,hq, ?_⟩
 rcases hc with⟨h1,y,hy,hm,hs,e1,e2⟩|⟨h1,h2,h3⟩|⟨h1,h2,h3,h4⟩
 ·rw[h1]at hs
  exact .inl ⟨h1,y,hy,hm,hs,e1,e2⟩
 ·rw[h1]at h3
  exact .inr (.inl ⟨h1,h2,h3⟩)
 ·refine .inr (.inr ⟨h1,h2,h3, ?_⟩)
  have:tT o.ex=false:=by cases hx:o.ex<;>first|rfl|exact absurd hx h1
  rw[this]at h4;exact h4
theorem aP.roundsN {m id:Nat} {body:Code} {α:Type} (Inv:α→Prop) (I:α→St) (μ:α→Nat) (live liveX:List Nat) (post:α→St) (lc:α→List (Nat×LC))
  (hlc: ∀x,Inv x→aL ro P m (lc x) body)
  (h: ∀x,Inv x→ ∃n p e b q s,aK m live liveX (aM tt ct (lc x) m n body (I x) p)=some (e,b,q,s)∧b=true∧(∀x∈q,x)∧
   ((e=.normal∧ ∃y,Inv y∧μ y<μ x∧s=I y∧post y=post x)∨(e=.exit id∧s=post x))):
  ∀x,Inv x→aP ro P m (.block id (.loop body)) (I x) fun e t=>e=.normal∧t=post x:=by
 refine aP.roundsR hT hct bE Inv I μ live liveX (fun _=> .normal) post lc hlc fun x hx=> ?_
 obtain⟨n,p,e,b,q,s,hr,hb,hq,hc⟩:=h x hx
 refine⟨n,p,e,b,q,s,hr,hb,hq, ?_⟩
 rcases hc with⟨h1,y,hy,hm,hs,e2⟩|⟨h1,h3⟩
 ·exact .inl ⟨h1,y,hy,hm,hs,rfl,e2⟩
 ·exact .inr (.inl ⟨h1,rfl,h3⟩)
end
end
section
theorem bF.view {P:Program} {f:FuncId} {args:List AV} {len es:Nat} {cap:Option Nat} {c:Con} (hm:bF P f args [] (.c (.sl 0 0 len es cap)) [.live c]) (hf:c.free=true) (hz:len*es=c.size):
  bF P f args [] (.c (.view none c len es cap)) []:=by
 refine⟨hm.1,fun {X w0 ρ0} m vs hl hv=> ?_⟩
 refine Calls.mono (hm.2 m vs hl hv) ?_
 rintro e w' ⟨v,ρ',rfl,mb,im,m',hr⟩
 have hun: ∀id,ρ0 id=.unborn:=fun id=>by
  have hs:=m.slot id
  rw[Heap.get_ge (by simp)]at hs
  cases hx:ρ0 id<;>rw[hx]at hs<;>first|rfl|exact hs.elim
 have hnl: ∀b, ¬b9 ρ0 b:=fun b ⟨id,h⟩=>by rw[hun id]at h;cases h
 have mb2:cY w' (fun b=>b9 ρ' b∨X b) w' (fun b=>b9 ρ0 b∨X b):=⟨fun _ _ _=>rfl,fun _ _=>rfl,Nat.le_refl _,fun b hb=> .inl (hb.elim (fun h=>absurd h (hnl b)) .inr)⟩
 refine⟨v,ρ0,rfl,⟨mb.keep,mb.shape,mb.size,fun b hb=> .inl hb⟩,cC.refl _,⟨fun id=> ?_,(fun i j b hi _=>absurd (hun i) (by rw[hi];simp)),(fun id b hb=>absurd (hun id) (by rw[hb];simp)),m'.os,m'.tape,m'.output,m'.size,m'.keep,m'.foreign⟩, ?_⟩
 ·rw[Heap.get_ge (by simp),hun id];trivial
 ·have hs:Heap.get [aV.live c] 0=.live c:=rfl
  refine .c _ _ ?_
  rcases dQ m' hs (cO hr)with⟨b,k,ty,n,hb,rfl,⟨cs,ty',hrow,hsz,hcs⟩,hsh,hn,hl',hcap⟩|⟨a,rfl,rfl,hcap⟩
  ·rw[Nat.zero_mul]
   refine .view none c len es cap b 0 k (fun q=>cs.getD q undef) (fun _ h=> ?_) (fun q hq=> ?_) (fun q hq=>((hcs q hq).free (eM hf q)).mono mb2 (cC.noIds _)) hz hl' hcap (fun _ h=>by cases h)
   ·rcases h with h|h
    ·exact hnl b h
    ·exact m'.notX hb h
   ·have hq':q<cs.size:=by omega
    simp[World.cell?,hrow,Array.getD,hq']
  ·exact .viewNone none c es cap a 0 (by omega) hcap (fun _ h=>by cases h) (fun _=>rfl)
end
section
def tt:Tab:=[
 none,
 some ⟨1,8,false,[.nilf],.cells,.other,false⟩,
 some ⟨1,8,false,[.int .i64 0],.ints .i64,.int .i64,false⟩,
 some ⟨1,8,false,[.int .i64 0],.ints .i64,.int .i64,false⟩,
 some ⟨1,1,false,[.bool false],.bools,.bool,false⟩,
 some ⟨1,1,false,[.int .u8 0],.ints .u8,.int .u8,false⟩,
 some ⟨1,1,false,[.int .u8 0],.ints .u8,.int .u8,false⟩,
 some ⟨4,24,true,[.int .i64 0,.int .i64 0,.bool false,.int .u8 0],.cells,.struct [(0,2),(1,3),(2,4),(3,6)],false⟩,
 some ⟨4,24,true,[.int .i64 0,.int .i64 0,.bool false,.int .u8 0],.cells,.struct [(0,2),(1,3),(2,4),(3,6)],false⟩,
 some ⟨1,16,false,[.str ByteArray.empty],.typ .str,.str,false⟩,
 some ⟨1,16,false,[.str ByteArray.empty],.typ .str,.str,false⟩,
 some ⟨1,16,false,[.str ByteArray.empty],.typ .str,.str,false⟩,
 some ⟨1,8,false,[.int .u64 0],.ints .u64,.int .u64,false⟩,
 some ⟨2,24,true,[.str ByteArray.empty,.int .u64 0],.cells,.struct [(0,9),(1,12)],false⟩,
 some ⟨2,24,true,[.str ByteArray.empty,.int .u64 0],.cells,.struct [(0,9),(1,12)],false⟩,
 some ⟨1,8,false,[.nilp],.cells,.ptr 288,false⟩,
 some ⟨1,8,false,[.nilp],.cells,.ptr 291,false⟩,
 some ⟨1,8,false,[.nilp],.cells,.ptr 299,false⟩,
 some ⟨1,8,true,[.nilp],.cells,.struct [(0,17)],false⟩,
 some ⟨1,8,true,[.nilp],.cells,.struct [(0,17)],false⟩,
 none,
 some ⟨1,4,false,[.int .i32 0],.ints .i32,.int .i32,false⟩,
 some ⟨1,24,false,[.nils],.cells,.slice 119,false⟩,
 some ⟨2,32,true,[.int .i64 0,.nils],.cells,.struct [(0,3),(1,22)],false⟩,
 some ⟨2,32,true,[.int .i64 0,.nils],.cells,.struct [(0,3),(1,22)],false⟩,
 some ⟨1,8,false,[.nilf],.cells,.other,false⟩,
 some ⟨1,8,false,[.nilf],.cells,.other,false⟩,
 some ⟨1,24,false,[.nils],.cells,.slice 73,false⟩,
 some ⟨2,32,true,[.int .i64 0,.nils],.cells,.struct [(0,3),(1,27)],false⟩,
 some ⟨2,32,true,[.int .i64 0,.nils],.cells,.struct [(0,3),(1,27)],false⟩,
 some ⟨1,8,false,[.nilf],.cells,.other,false⟩,
 some ⟨1,8,false,[.nilf],.cells,.other,false⟩,
 some ⟨1,8,false,[.nilf],.cells,.other,false⟩,
 some ⟨1,8,false,[.nilf],.cells,.other,false⟩,
 some ⟨1,24,false,[.nils],.cells,.slice 4,false⟩,
 some ⟨3,56,true,[.int .i64 0,.nils,.nils],.cells,.struct [(0,24),(2,34)],false⟩,
 some ⟨3,56,true,[.int .i64 0,.nils,.nils],.cells,.struct [(0,24),(2,34)],false⟩,
 some ⟨1,8,false,[.nilf],.cells,.other,false⟩,
 some ⟨1,8,false,[.nilf],.cells,.other,false⟩,
 some ⟨3,56,true,[.int .i64 0,.nils,.nils],.cells,.struct [(0,29),(2,34)],false⟩,
 some ⟨3,56,true,[.int .i64 0,.nils,.nils],.cells,.struct [(0,29),(2,34)],false⟩,
 some ⟨1,8,false,[.nilf],.cells,.other,false⟩,
 some ⟨1,8,false,[.nilf],.cells,.other,false⟩,
 some ⟨1,8,false,[.nilf],.cells,.other,false⟩,
 none,
 some ⟨1,8,false,[.nilf],.cells,.other,false⟩,
 some ⟨1,8,false,[.nilf],.cells,.other,false⟩,
 some ⟨1,24,false,[.nils],.cells,.slice 9,false⟩,
 some ⟨1,8,false,[.nilf],.cells,.other,false⟩,
 some ⟨1,8,false,[.nilf],.cells,.other,false⟩,
 some ⟨1,8,false,[.nilf],.cells,.other,false⟩,
 some ⟨1,8,false,[.nilf],.cells,.other,false⟩,
 some ⟨1,8,false,[.nilf],.cells,.other,false⟩,
 none,
 some ⟨1,8,false,[.nilf],.cells,.other,false⟩,
 some ⟨1,8,false,[.nilf],.cells,.other,false⟩,
 some ⟨1,8,false,[.nilf],.cells,.other,false⟩,
 some ⟨1,8,false,[.nilf],.cells,.other,false⟩,
 some ⟨1,8,false,[.nilf],.cells,.other,false⟩,
 some ⟨1,8,false,[.nilf],.cells,.other,false⟩,
 some ⟨1,8,false,[.nilf],.cells,.other,false⟩,
 some ⟨1,8,false,[.nilf],.cells,.other,false⟩,
 some ⟨4,48,true,[.int .i64 0,.str ByteArray.empty,.str ByteArray.empty,.int .i64 0],.typ .evt,.struct [(0,3),(1,9),(2,9),(3,3)],false⟩,
 some ⟨4,48,true,[.int .i64 0,.str ByteArray.empty,.str ByteArray.empty,.int .i64 0],.typ .evt,.struct [(0,3),(1,9),(2,9),(3,3)],false⟩,
 some ⟨1,8,false,[.nilf],.cells,.other,false⟩,
 none,
 some ⟨1,8,false,[.nilf],.cells,.other,false⟩,
 some ⟨4,48,true,[.int .i64 0,.str ByteArray.empty,.str ByteArray.empty,.int .i64 0],.typ .evt,.struct [(0,3),(1,9),(2,9),(3,3)],false⟩,
 some ⟨1,8,false,[.nilf],.cells,.other,false⟩,
 some ⟨1,8,false,[.nilf],.cells,.other,false⟩,
 some ⟨1,8,false,[.nilf],.cells,.other,false⟩,
 some ⟨1,24,false,[.nils],.cells,.slice 80,false⟩,
 some ⟨2,40,true,[.str ByteArray.empty,.nils],.typ .itm,.struct [(0,9),(1,71)],false⟩,
 some ⟨2,40,true,[.str ByteArray.empty,.nils],.typ .itm,.struct [(0,9),(1,71)],false⟩,
 some ⟨1,8,false,[.nilf],.cells,.other,false⟩,
 some ⟨1,8,false,[.nilf],.cells,.other,false⟩,
 some ⟨1,24,false,[.nils],.ivs .i64,.slice 3,false⟩,
 some ⟨4,80,true,[.int .i64 0,.nils,.nils,.nils],.cells,.struct [(0,3),(1,76),(2,76),(3,34)],false⟩,
 some ⟨4,80,true,[.int .i64 0,.nils,.nils,.nils],.cells,.struct [(0,3),(1,76),(2,76),(3,34)],false⟩,
 some ⟨8,128,true,[.int .i64 0,.nils,.nils,.nils,.bool false,.int .i64 0,.nils,.int .i64 0],.typ .pk,.struct [(0,78),(4,4),(5,3),(6,76),(7,3)],false⟩,
 some ⟨8,128,true,[.int .i64 0,.nils,.nils,.nils,.bool false,.int .i64 0,.nils,.int .i64 0],.typ .pk,.struct [(0,78),(4,4),(5,3),(6,76),(7,3)],false⟩,
 some ⟨1,8,false,[.nilf],.cells,.other,false⟩,
 some ⟨1,8,false,[.nilf],.cells,.other,false⟩,
 some ⟨1,8,false,[.nilf],.cells,.other,false⟩,
 some ⟨1,8,false,[.nilf],.cells,.other,false⟩,
 some ⟨1,8,false,[.nilf],.cells,.other,false⟩,
 some ⟨1,8,false,[.nilf],.cells,.other,false⟩,
 some ⟨1,8,false,[.nilf],.cells,.other,false⟩,
 some ⟨1,8,false,[.nilf],.cells,.other,false⟩,
 some ⟨1,8,false,[.nilf],.cells,.other,false⟩,
 some ⟨1,8,false,[.nilf],.cells,.other,false⟩,
 some ⟨1,8,false,[.nilf],.cells,.other,false⟩,
 some ⟨1,8,false,[.nilf],.cells,.other,false⟩,
 some ⟨1,8,false,[.nilf],.cells,.other,false⟩,
 none,
 some ⟨1,8,false,[.nilf],.cells,.other,false⟩,
 some ⟨1,8,false,[.nilf],.cells,.other,false⟩,
 some ⟨1,8,false,[.nilf],.cells,.other,false⟩,
 some ⟨1,8,false,[.nilf],.cells,.other,false⟩,
 some ⟨1,8,false,[.nilf],.cells,.other,false⟩,
 some ⟨1,8,false,[.nilf],.cells,.other,false⟩,
 some ⟨1,8,false,[.nilf],.cells,.other,false⟩,
 some ⟨1,8,false,[.nilf],.cells,.other,false⟩,
 some ⟨1,8,false,[.nilf],.cells,.other,false⟩,
 none,
 some ⟨1,8,false,[.nilf],.cells,.other,false⟩,
 some ⟨1,8,false,[.nilf],.cells,.other,false⟩,
 some ⟨1,8,false,[.nilf],.cells,.other,false⟩,
 some ⟨1,8,false,[.nilf],.cells,.other,false⟩,
 some ⟨1,24,false,[.nils],.cells,.slice 76,false⟩,
 some ⟨1,8,false,[.nilf],.cells,.other,false⟩,
 some ⟨1,8,false,[.nilf],.cells,.other,false⟩,
 some ⟨1,8,false,[.nilf],.cells,.other,false⟩,
 some ⟨1,8,false,[.nilf],.cells,.other,false⟩,
 some ⟨1,8,false,[.nilf],.cells,.other,false⟩,
 some ⟨1,8,false,[.nilf],.cells,.other,false⟩,
 some ⟨1,8,false,[.nilf],.cells,.other,false⟩,
 some ⟨1,24,false,[.nils],.cells,.slice 201,false⟩,
 some ⟨2,40,true,[.str ByteArray.empty,.nils],.typ .itm,.struct [(0,9),(1,117)],false⟩,
 some ⟨2,40,true,[.str ByteArray.empty,.nils],.typ .itm,.struct [(0,9),(1,117)],false⟩,
 some ⟨1,8,false,[.nilf],.cells,.other,false⟩,
 some ⟨1,8,false,[.nilf],.cells,.other,false⟩,
 some ⟨1,8,false,[.nilf],.cells,.other,false⟩,
 some ⟨1,8,false,[.nilf],.cells,.other,false⟩,
 none,
 some ⟨1,8,false,[.nilf],.cells,.other,false⟩,
 some ⟨1,8,false,[.nilf],.cells,.other,false⟩,
 some ⟨1,8,false,[.nilf],.cells,.other,false⟩,
 some ⟨1,8,false,[.nilf],.cells,.other,false⟩,
 some ⟨1,8,false,[.nilf],.cells,.other,false⟩,
 some ⟨1,8,false,[.nilf],.cells,.other,false⟩,
 none,
 some ⟨1,8,false,[.nilf],.cells,.other,false⟩,
 some ⟨1,8,false,[.nilf],.cells,.other,false⟩,
 some ⟨1,8,false,[.nilf],.cells,.other,false⟩,
 some ⟨1,8,false,[.nilf],.cells,.other,false⟩,
 some ⟨1,8,false,[.nilf],.cells,.other,false⟩,
 some ⟨1,8,false,[.nilf],.cells,.other,false⟩,
 some ⟨1,8,false,[.nilf],.cells,.other,false⟩,
 some ⟨1,24,false,[.nils],.ivs .u8,.slice 5,false⟩,
 some ⟨1,8,false,[.nilf],.cells,.other,false⟩,
 some ⟨1,8,false,[.nilf],.cells,.other,false⟩,
 some ⟨1,8,false,[.nilf],.cells,.other,false⟩,
 some ⟨1,8,false,[.nilf],.cells,.other,false⟩,
 none,
 some ⟨1,8,false,[.nilf],.cells,.other,false⟩,
 some ⟨1,8,false,[.nilf],.cells,.other,false⟩,
 some ⟨1,8,false,[.nilf],.cells,.other,false⟩,
 some ⟨1,8,false,[.nilf],.cells,.other,false⟩,
 some ⟨1,8,false,[.nilf],.cells,.other,false⟩,
 some ⟨1,8,false,[.nilf],.cells,.other,false⟩,
 some ⟨1,8,false,[.nilf],.cells,.other,false⟩,
 some ⟨1,8,false,[.nilf],.cells,.other,false⟩,
 some ⟨1,8,false,[.nilf],.cells,.other,false⟩,
 some ⟨1,8,false,[.nilf],.cells,.other,false⟩,
 some ⟨1,8,false,[.nilf],.cells,.other,false⟩,
 some ⟨1,8,false,[.nilf],.cells,.other,false⟩,
 some ⟨1,8,false,[.nilf],.cells,.other,false⟩,
 some ⟨1,8,false,[.nilf],.cells,.other,false⟩,
 some ⟨1,8,false,[.nilf],.cells,.other,false⟩,
 some ⟨1,8,false,[.nilf],.cells,.other,false⟩,
 some ⟨1,8,false,[.nilf],.cells,.other,false⟩,
 some ⟨1,8,false,[.nilf],.cells,.other,false⟩,
 some ⟨1,8,false,[.nilf],.cells,.other,false⟩,
 some ⟨1,8,false,[.nilf],.cells,.other,false⟩,
 some ⟨1,8,false,[.nilf],.cells,.other,false⟩,
 some ⟨1,8,false,[.nilf],.cells,.other,false⟩,
 some ⟨1,8,false,[.nilf],.cells,.other,false⟩,
 some ⟨1,8,false,[.nilf],.cells,.other,false⟩,
 some ⟨1,8,false,[.nilf],.cells,.other,false⟩,
 some ⟨1,8,false,[.nilf],.cells,.other,false⟩,
 some ⟨1,8,false,[.int .u64 0],.ints .u64,.int .u64,false⟩,
 some ⟨1,8,false,[.nilf],.cells,.other,false⟩,
 some ⟨1,8,false,[.nilf],.cells,.other,false⟩,
 some ⟨1,8,false,[.nilf],.cells,.other,false⟩,
 some ⟨1,8,false,[.int .i64 0],.ints .i64,.int .i64,false⟩,
 some ⟨4,32,true,[.int .i64 0,.int .i64 0,.int .i64 0,.int .i64 0],.ints .i64,.arr 4 175,false⟩,
 some ⟨4,32,true,[.int .i64 0,.int .i64 0,.int .i64 0,.int .i64 0],.ints .i64,.arr 4 175,false⟩,
 none,
 some ⟨1,8,false,[.nilf],.cells,.other,false⟩,
 some ⟨1,8,false,[.nilf],.cells,.other,false⟩,
 some ⟨1,8,false,[.nilf],.cells,.other,false⟩,
 some ⟨1,8,false,[.nilf],.cells,.other,false⟩,
 some ⟨1,8,false,[.nilf],.cells,.other,false⟩,
 some ⟨1,8,false,[.nilf],.cells,.other,false⟩,
 some ⟨3,56,true,[.int .i64 0,.nils,.nils],.cells,.struct [(0,3),(1,76),(2,76)],false⟩,
 some ⟨3,56,true,[.int .i64 0,.nils,.nils],.cells,.struct [(0,3),(1,76),(2,76)],false⟩,
 none,
 some ⟨1,8,false,[.nilf],.cells,.other,false⟩,
 some ⟨1,8,false,[.nilf],.cells,.other,false⟩,
 some ⟨1,8,false,[.nilf],.cells,.other,false⟩,
 some ⟨1,8,false,[.nilf],.cells,.other,false⟩,
 some ⟨1,8,false,[.nilf],.cells,.other,false⟩,
 some ⟨1,8,false,[.nilf],.cells,.other,false⟩,
 some ⟨1,8,false,[.nilf],.cells,.other,false⟩,
 some ⟨1,8,false,[.nilf],.cells,.other,false⟩,
 some ⟨1,8,false,[.nilf],.cells,.other,false⟩,
 some ⟨1,8,false,[.nilp],.cells,.ptr 40,false⟩,
 some ⟨1,8,false,[.nilf],.cells,.other,false⟩,
 some ⟨4,80,true,[.int .i64 0,.nils,.nils,.nils],.cells,.struct [(0,3),(1,76),(2,76),(3,34)],false⟩,
 some ⟨8,128,true,[.int .i64 0,.nils,.nils,.nils,.bool false,.int .i64 0,.nils,.int .i64 0],.typ .pk,.struct [(0,199),(4,4),(5,3),(6,76),(7,3)],false⟩,
 some ⟨8,128,true,[.int .i64 0,.nils,.nils,.nils,.bool false,.int .i64 0,.nils,.int .i64 0],.typ .pk,.struct [(0,199),(4,4),(5,3),(6,76),(7,3)],false⟩,
 some ⟨1,8,false,[.nilf],.cells,.other,false⟩,
 some ⟨1,8,false,[.nilf],.cells,.other,false⟩,
 some ⟨1,8,false,[.nilf],.cells,.other,false⟩,
 some ⟨1,8,false,[.nilf],.cells,.other,false⟩,
 some ⟨1,8,false,[.nilf],.cells,.other,false⟩,
 some ⟨1,8,false,[.nilf],.cells,.other,false⟩,
 some ⟨1,8,false,[.nilf],.cells,.other,false⟩,
 some ⟨1,8,false,[.nilf],.cells,.other,false⟩,
 some ⟨1,8,false,[.nilf],.cells,.other,false⟩,
 some ⟨1,8,false,[.nilf],.cells,.other,false⟩,
 some ⟨1,8,false,[.nilf],.cells,.other,false⟩,
 some ⟨1,8,false,[.nilf],.cells,.other,false⟩,
 some ⟨1,8,false,[.nilf],.cells,.other,false⟩,
 some ⟨1,8,false,[.nilf],.cells,.other,false⟩,
 some ⟨1,8,false,[.nilf],.cells,.other,false⟩,
 some ⟨1,8,false,[.nilf],.cells,.other,false⟩,
 some ⟨1,8,false,[.nilf],.cells,.other,false⟩,
 some ⟨1,8,false,[.nilf],.cells,.other,false⟩,
 some ⟨1,8,false,[.nilf],.cells,.other,false⟩,
 none,
 some ⟨1,8,false,[.nilf],.cells,.other,false⟩,
 some ⟨1,8,false,[.nilf],.cells,.other,false⟩,
 some ⟨1,8,false,[.nilf],.cells,.other,false⟩,
 some ⟨1,8,false,[.nilf],.cells,.other,false⟩,
 some ⟨1,8,false,[.nilf],.cells,.other,false⟩,
 some ⟨1,8,false,[.nilf],.cells,.other,false⟩,
 some ⟨1,8,false,[.nilf],.cells,.other,false⟩,
 some ⟨1,8,false,[.nilf],.cells,.other,false⟩,
 some ⟨1,8,false,[.nilf],.cells,.other,false⟩,
 some ⟨1,8,false,[.nilf],.cells,.other,false⟩,
 some ⟨1,8,false,[.nilf],.cells,.other,false⟩,
 some ⟨1,8,false,[.nilf],.cells,.other,false⟩,
 some ⟨1,8,false,[.nilf],.cells,.other,false⟩,
 some ⟨1,8,false,[.nilf],.cells,.other,false⟩,
 some ⟨1,8,false,[.nilf],.cells,.other,false⟩,
 some ⟨1,24,false,[.nils],.cells,.slice 177,false⟩,
 some ⟨1,24,false,[.nils],.cells,.slice 177,false⟩,
 some ⟨1,8,false,[.nilf],.cells,.other,false⟩,
 some ⟨1,8,false,[.nilp],.cells,.ptr 245,false⟩,
 some ⟨1,8,false,[.nilf],.cells,.other,false⟩,
 some ⟨1,24,false,[.nils],.cells,.slice 250,false⟩,
 some ⟨1,24,false,[.nils],.cells,.slice 248,false⟩,
 some ⟨2,48,true,[.nils,.nils],.cells,.struct [(0,243),(1,76)],false⟩,
 some ⟨2,48,true,[.nils,.nils],.cells,.struct [(0,243),(1,76)],false⟩,
 some ⟨8,64,true,[.int .i64 0,.int .i64 0,.int .i64 0,.int .i64 0,.int .i64 0,.int .i64 0,.int .i64 0,.int .i64 0],.ints .i64,.arr 8 175,false⟩,
 some ⟨12,96,true,[.int .i64 0,.int .i64 0,.int .i64 0,.int .i64 0,.int .i64 0,.int .i64 0,.int .i64 0,.int .i64 0,.int .i64 0,.int .i64 0,.int .i64 0,.int .i64 0],.ints .i64,.struct [(0,177),(4,246)],false⟩,
 some ⟨12,96,true,[.int .i64 0,.int .i64 0,.int .i64 0,.int .i64 0,.int .i64 0,.int .i64 0,.int .i64 0,.int .i64 0,.int .i64 0,.int .i64 0,.int .i64 0,.int .i64 0],.ints .i64,.struct [(0,177),(4,246)],false⟩,
 some ⟨5,40,true,[.int .i64 0,.int .i64 0,.int .i64 0,.int .i64 0,.int .i64 0],.ints .i64,.struct [(0,177),(4,175)],false⟩,
 some ⟨5,40,true,[.int .i64 0,.int .i64 0,.int .i64 0,.int .i64 0,.int .i64 0],.ints .i64,.struct [(0,177),(4,175)],false⟩,
 none,
 some ⟨1,8,false,[.nilf],.cells,.other,false⟩,
 some ⟨1,8,false,[.nilf],.cells,.other,false⟩,
 some ⟨1,8,false,[.nilf],.cells,.other,false⟩,
 some ⟨1,4,false,[.int .u32 0],.ints .u32,.int .u32,false⟩,
 none,
 some ⟨1,8,false,[.nilf],.cells,.other,false⟩,
 some ⟨1,8,false,[.int .u64 0],.ints .u64,.int .u64,false⟩,
 none,
 some ⟨1,8,false,[.nilf],.cells,.other,false⟩,
 some ⟨1,8,false,[.nilf],.cells,.other,false⟩,
 some ⟨1,8,false,[.nilf],.cells,.other,false⟩,
 some ⟨1,8,false,[.int .i64 0],.ints .i64,.int .i64,false⟩,
 none,
 some ⟨1,8,false,[.nilf],.cells,.other,false⟩,
 some ⟨1,8,false,[.nilf],.cells,.other,false⟩,
 some ⟨1,8,false,[.nilf],.cells,.other,false⟩,
 some ⟨1,8,false,[.nilf],.cells,.other,false⟩,
 some ⟨1,8,false,[.nilf],.cells,.other,false⟩,
 some ⟨1,8,false,[.nilf],.cells,.other,false⟩,
 some ⟨1,8,false,[.nilf],.cells,.other,false⟩,
 some ⟨1,8,false,[.nilf],.cells,.other,false⟩,
 some ⟨1,8,false,[.nilf],.cells,.other,false⟩,
 some ⟨1,8,false,[.nilf],.cells,.other,false⟩,
 some ⟨1,24,false,[.nils],.ivs .i64,.slice 175,false⟩,
 some ⟨1,8,false,[.nilf],.cells,.other,false⟩,
 some ⟨1,8,false,[.int .u64 0],.ints .u64,.int .u64,false⟩,
 some ⟨1,8,false,[.nilf],.cells,.other,false⟩,
 some ⟨1,8,false,[.nilf],.cells,.other,false⟩,
 some ⟨1,8,false,[.nilf],.cells,.other,false⟩,
 some ⟨1,8,false,[.nilp],.cells,.ptr 3,false⟩,
 some ⟨1,8,false,[.nilf],.cells,.other,false⟩,
 some ⟨1,8,false,[.nilp],.cells,.ptr 277,false⟩,
 none,
 some ⟨1,8,false,[.nilf],.cells,.other,false⟩,
 some ⟨1,8,false,[.nilf],.cells,.other,false⟩,
 some ⟨4,40,true,[.nilp,.nilp,.nilp,.str ByteArray.empty],.cells,.struct [(0,17),(1,17),(2,17),(3,9)],false⟩,
 some ⟨4,40,true,[.nilp,.nilp,.nilp,.str ByteArray.empty],.cells,.struct [(0,17),(1,17),(2,17),(3,9)],false⟩,
 none,
 none,
 none,
 some ⟨1,1,false,[.int .u8 0],.ints .u8,.int .u8,false⟩,
 some ⟨1,1,false,[.int .u8 0],.ints .u8,.int .u8,false⟩,
 some ⟨1,8,false,[.nilf],.cells,.other,false⟩,
 some ⟨1,8,false,[.nilp],.cells,.ptr 5,false⟩,
 some ⟨1,4,false,[.int .i32 0],.ints .i32,.int .i32,false⟩,
 some ⟨1,4,false,[.int .i32 0],.ints .i32,.int .i32,false⟩,
 some ⟨11,48,true,[.int .u64 0,.int .u64 0,.int .u32 0,.int .u8 0,.int .u8 0,.int .u8 0,.int .u8 0,.nilf,.nilp,.int .i32 0,.int .i32 0],.cells,.struct [(0,12),(1,12),(2,255),(3,292),(4,5),(5,5),(6,293),(7,294),(8,295),(9,296),(10,297)],false⟩,
 some ⟨11,48,true,[.int .u64 0,.int .u64 0,.int .u32 0,.int .u8 0,.int .u8 0,.int .u8 0,.int .u8 0,.nilf,.nilp,.int .i32 0,.int .i32 0],.cells,.struct [(0,12),(1,12),(2,255),(3,292),(4,5),(5,5),(6,293),(7,294),(8,295),(9,296),(10,297)],false⟩,
 none]
end
section
theorem hT:iK Tryz.prog tt:=RA (by kernel_rfl)
theorem bE:Tryz.prog.follows .mixedOrders=true:=by kernel_rfl
theorem cA {ct:CT} (hct:bL Tryz.prog ct) {lc:List (Nat×LC)} {fuel:Nat} {f:FuncId} {fn:Func} {args:List AV} {h:List aV} {p:gJ} {o:sF} (hf:Tryz.prog.funcs[f]? =some fn)
  (hnm:(fn.name== "runtime.NumGoroutine")=false) (he:aJ tt ct lc fuel fn args h p=some o) (ho:o.obl=true) (hq: ∀q∈o.eqs,q) (hlc: ∀c,fn.body=some c→aL none Tryz.prog h.length lc c):
  bF Tryz.prog f args h o.res o.heap:=qF hT hct bE hf hnm he ho hq hlc
theorem mo {ct:CT} (hct:bL Tryz.prog ct) {lc:List (Nat×LC)} {fuel:Nat} {f:FuncId} {fn:Func} {args:List AV} {h:List aV} {p:gJ} {o:sF} (he:aJ tt ct lc fuel fn args h p=some o) (ho:o.obl=true) (hf:Tryz.prog.funcs[f]? =some fn:=by kernel_rfl)
  (hnm:(fn.name== "runtime.NumGoroutine")=false:=by kernel_rfl) (hq: ∀q∈o.eqs,q:=by simp) (hlc: ∀c,fn.body=some c→aL none Tryz.prog h.length lc c:=by exact fun _ _=>aL.nil):
  bF Tryz.prog f args h o.res o.heap:=cA hct hf hnm he ho hq hlc
theorem bt1 {α0:Type} (a0:α0) {P:α0→Prop} (h:P a0):P a0:=h
theorem bt2 {α0:Type} {α1:Type} (a0:α0) (a1:α1) {P:α0→α1→Prop} (h:P a0 a1):P a0 a1:=h
theorem bt3 {α0:Type} {α1:Type} {α2:Type} (a0:α0) (a1:α1) (a2:α2) {P:α0→α1→α2→Prop} (h:P a0 a1 a2):P a0 a1 a2:=h
theorem bt4 {α0:Type} {α1:Type} {α2:Type} {α3:Type} (a0:α0) (a1:α1) (a2:α2) (a3:α3) {P:α0→α1→α2→α3→Prop} (h:P a0 a1 a2 a3):P a0 a1 a2 a3:=h
theorem bt5 {α0:Type} {α1:Type} {α2:Type} {α3:Type} {α4:Type} (a0:α0) (a1:α1) (a2:α2) (a3:α3) (a4:α4) {P:α0→α1→α2→α3→α4→Prop} (h:P a0 a1 a2 a3 a4):P a0 a1 a2 a3 a4:=h
theorem bt6 {α0:Type} {α1:Type} {α2:Type} {α3:Type} {α4:Type} {α5:Type} (a0:α0) (a1:α1) (a2:α2) (a3:α3) (a4:α4) (a5:α5) {P:α0→α1→α2→α3→α4→α5→Prop} (h:P a0 a1 a2 a3 a4 a5):P a0 a1 a2 a3 a4 a5:=h
theorem bt7 {α0:Type} {α1:Type} {α2:Type} {α3:Type} {α4:Type} {α5:Type} {α6:Type} (a0:α0) (a1:α1) (a2:α2) (a3:α3) (a4:α4) (a5:α5) (a6:α6) {P:α0→α1→α2→α3→α4→α5→α6→Prop} (h:P a0 a1 a2 a3 a4 a5 a6):P a0 a1 a2 a3 a4 a5 a6:=h
theorem bt8 {α0:Type} {α1:Type} {α2:Type} {α3:Type} {α4:Type} {α5:Type} {α6:Type} {α7:Type} (a0:α0) (a1:α1) (a2:α2) (a3:α3) (a4:α4) (a5:α5) (a6:α6) (a7:α7) {P:α0→α1→α2→α3→α4→α5→α6→α7→Prop} (h:P a0 a1 a2 a3 a4 a5 a6 a7):P a0 a1 a2 a3 a4 a5 a6 a7:=h
theorem bt9 {α0:Type} {α1:Type} {α2:Type} {α3:Type} {α4:Type} {α5:Type} {α6:Type} {α7:Type} {α8:Type} (a0:α0) (a1:α1) (a2:α2) (a3:α3) (a4:α4) (a5:α5) (a6:α6) (a7:α7) (a8:α8) {P:α0→α1→α2→α3→α4→α5→α6→α7→α8→Prop} (h:P a0 a1 a2 a3 a4 a5 a6 a7 a8):P a0 a1 a2 a3 a4 a5 a6 a7 a8:=h
theorem E6 {α0:Type} {α1:Type} {α2:Type} {α3:Type} {α4:Type} {α5:Type} {α6:Type} {α7:Type} {α8:Type} {α9:Type} (a0:α0) (a1:α1) (a2:α2) (a3:α3) (a4:α4) (a5:α5) (a6:α6) (a7:α7) (a8:α8) (a9:α9) {P:α0→α1→α2→α3→α4→α5→α6→α7→α8→α9→Prop} (h:P a0 a1 a2 a3 a4 a5 a6 a7 a8 a9):P a0 a1 a2 a3 a4 a5 a6 a7 a8 a9:=h
theorem a8J {α0:Type} {α1:Type} {α2:Type} {α3:Type} {α4:Type} {α5:Type} {α6:Type} {α7:Type} {α8:Type} {α9:Type} {α10:Type} (a0:α0) (a1:α1) (a2:α2) (a3:α3) (a4:α4) (a5:α5) (a6:α6) (a7:α7) (a8:α8) (a9:α9) (a10:α10) {P:α0→α1→α2→α3→α4→α5→α6→α7→α8→α9→α10→Prop} (h:P a0 a1 a2 a3 a4 a5 a6 a7 a8 a9 a10):P a0 a1 a2 a3 a4 a5 a6 a7 a8 a9 a10:=h
theorem a8K {α0:Type} {α1:Type} {α2:Type} {α3:Type} {α4:Type} {α5:Type} {α6:Type} {α7:Type} {α8:Type} {α9:Type} {α10:Type} {α11:Type} (a0:α0) (a1:α1) (a2:α2) (a3:α3) (a4:α4) (a5:α5) (a6:α6) (a7:α7) (a8:α8) (a9:α9) (a10:α10) (a11:α11) {P:α0→α1→α2→α3→α4→α5→α6→α7→α8→α9→α10→α11→Prop} (h:P a0 a1 a2 a3 a4 a5 a6 a7 a8 a9 a10 a11):P a0 a1 a2 a3 a4 a5 a6 a7 a8 a9 a10 a11:=h
theorem ZT {α0:Type} {α1:Type} {α2:Type} {α3:Type} {α4:Type} {α5:Type} {α6:Type} {α7:Type} {α8:Type} {α9:Type} {α10:Type} {α11:Type} {α12:Type} (a0:α0) (a1:α1) (a2:α2) (a3:α3) (a4:α4) (a5:α5) (a6:α6) (a7:α7) (a8:α8) (a9:α9) (a10:α10) (a11:α11) (a12:α12) {P:α0→α1→α2→α3→α4→α5→α6→α7→α8→α9→α10→α11→α12→Prop} (h:P a0 a1 a2 a3 a4 a5 a6 a7 a8 a9 a10 a11 a12):P a0 a1 a2 a3 a4 a5 a6 a7 a8 a9 a10 a11 a12:=h
theorem a8L {α0:Type} {α1:Type} {α2:Type} {α3:Type} {α4:Type} {α5:Type} {α6:Type} {α7:Type} {α8:Type} {α9:Type} {α10:Type} {α11:Type} {α12:Type} {α13:Type} (a0:α0) (a1:α1) (a2:α2) (a3:α3) (a4:α4) (a5:α5) (a6:α6) (a7:α7) (a8:α8) (a9:α9) (a10:α10) (a11:α11) (a12:α12) (a13:α13) {P:α0→α1→α2→α3→α4→α5→α6→α7→α8→α9→α10→α11→α12→α13→Prop} (h:P a0 a1 a2 a3 a4 a5 a6 a7 a8 a9 a10 a11 a12 a13):P a0 a1 a2 a3 a4 a5 a6 a7 a8 a9 a10 a11 a12 a13:=h
theorem a8M {α0:Type} {α1:Type} {α2:Type} {α3:Type} {α4:Type} {α5:Type} {α6:Type} {α7:Type} {α8:Type} {α9:Type} {α10:Type} {α11:Type} {α12:Type} {α13:Type} {α14:Type} (a0:α0) (a1:α1) (a2:α2) (a3:α3) (a4:α4) (a5:α5) (a6:α6) (a7:α7) (a8:α8) (a9:α9) (a10:α10) (a11:α11) (a12:α12) (a13:α13) (a14:α14) {P:α0→α1→α2→α3→α4→α5→α6→α7→α8→α9→α10→α11→α12→α13→α14→Prop} (h:P a0 a1 a2 a3 a4 a5 a6 a7 a8 a9 a10 a11 a12 a13 a14):P a0 a1 a2 a3 a4 a5 a6 a7 a8 a9 a10 a11 a12 a13 a14:=h
end
section
def f0 (bs:List Bool):Nat→Nat→List Int
 |0,_=>[]
 |k+1,i=>if bs.getD i false then(i:Int)::f0 bs k (i+1)else f0 bs k (i+1)
def flg (bs:List Bool):List Int:=f0 bs bs.length 0
noncomputable abbrev f112:=Tryz.f69
def vK (nl:Option Bool) (cap:Option Nat) (bs:List Bool) (i:Int) (n:Nat) (out:List Int):St:=
 aS 21 [(7,.c (.view nl (.bools bs) bs.length 1 cap)),(8,.c (.int .i64 bs.length)),(9,.c (.int .i64 i)),(3,.c (.sl 0 0 n 1 none))] [.live (.ints .i64 out)]
def NX (n:Nat) (out:List Int):St:=aS 21 [(3,.c (.sl 0 0 n 1 none))] [.live (.ints .i64 out)]
section
variable (ct : CT) (nl : Option Bool) (cap : Option Nat) (bs : List Bool) (i : Int) (n : Nat) (out : List Int)
theorem V1:aK 0 (aE f112 0) (aG f112 0) (aM tt ct [] 0 100 (aC 0 (aB f112)) (vK nl cap bs i n out) [(0,true),(0,true)])=
  some (.normal,(decide (i<bs.length)&&(decide (0≤i)&&(decide (i<bs.length)&&(decide (i.toNat<bs.length)&&(bs.getD i.toNat false&&(decide (1=[i].length)&&(decide (n=out.length)&&(decide (n+1≤274877906944)&&true)))))))),[],
   vK nl cap bs (IntKind.i64.wrap (i+1)) (n+1) (out++[i])):=by kernel_rfl
theorem V2:aK 0 (aE f112 0) (aG f112 0) (aM tt ct [] 0 100 (aC 0 (aB f112)) (vK nl cap bs i n out) [(0,true),(0,false)])=
  some (.normal,(decide (i<bs.length)&&(decide (0≤i)&&(decide (i<bs.length)&&(decide (i.toNat<bs.length)&&(!bs.getD i.toNat false&&true))))),[],
   vK nl cap bs (IntKind.i64.wrap (i+1)) n out):=by kernel_rfl
theorem V3:aK 0 (aE f112 0) (aG f112 0) (aM tt ct [] 0 100 (aC 0 (aB f112)) (vK nl cap bs i n out) [(0,false)])=
  some (.exit 0,(!decide (i<bs.length)&&true),[],NX n out):=by kernel_rfl
end
theorem aF {i:Int} (h0:0≤i) (h1:i<9223372036854775808):IntKind.i64.wrap i=i:=by
 simp[IntKind.wrap,IntKind.bits,IntKind.signed]
 omega
theorem wJ (bs:List Bool): ∀k i,(f0 bs k i).length≤k
 |0,_=>by simp[f0]
 |k+1,i=>by
  have:=wJ bs k (i+1)
  simp only[f0];split<;>simp<;>omega
def JQ:aO:=fun args h=>
 match args,h with
 |[.c (.view nl (.bools bs) len 1 cap)],[]=>some (.c (.sl 0 0 (flg bs).length 1 none),[.live (.ints .i64 (flg bs))],[decide (bs.length≤274877906944)])
 |_,_=>none
theorem a8V {ct:CT} (hct:bL Tryz.prog ct) (nl:Option Bool) (cap:Option Nat) (bs:List Bool) (hl:bs.length≤274877906944):
  aP none Tryz.prog 0 (.block 0 (.loop (aC 0 (aB f112)))) (vK nl cap bs 0 0 []) fun e t=>e=.normal∧t=NX (flg bs).length (flg bs):=by
 have key:=aP.roundsN (ro:=none) hT hct bE (m:=0) (id:=0) (body:=aC 0 (aB f112)) (α:=Nat×List Int)
  (fun x=>x.1≤bs.length∧x.2.length≤x.1∧x.2++f0 bs (bs.length-x.1) x.1=flg bs) (fun x=>vK nl cap bs x.1 x.2.length x.2) (fun x=>bs.length-x.1) (aE f112 0) (aG f112 0)
  (fun _=>NX (flg bs).length (flg bs)) (fun _=>[]) (fun _ _=>aL.nil) (fun x hx=> ?_) (0,[]) ⟨by simp,by simp,by simp[flg]⟩
 ·exact key
 ·obtain⟨i,out⟩:=x
  obtain⟨h1,h2,h3⟩:=hx
  dsimp only at h1 h2 h3⊢
  by_cases hi:i<bs.length
  ·have hk:bs.length-i=(bs.length-(i+1))+1:=by omega
   rw[hk]at h3
   simp only[f0]at h3
   cases hb:bs.getD i false with
   |true=>
    refine⟨_,_,_,_,_,_,V1 ct nl cap bs i out.length out, ?_,by simp,.inl ⟨rfl,(i+1,out++[(i:Int)]),⟨by omega,by simp;omega, ?_⟩,by dsimp only;omega, ?_,rfl⟩⟩
    ·simp[-List.getD_eq_getElem?_getD,hi,hb];omega
    ·rw[hb]at h3;simpa using h3
    ·rw[aF (by omega) (by omega)];simp
   |false=>
    refine⟨_,_,_,_,_,_,V2 ct nl cap bs i out.length out, ?_,by simp,.inl ⟨rfl,(i+1,out),⟨by omega,by dsimp only;omega, ?_⟩,by dsimp only;omega, ?_,rfl⟩⟩
    ·simp[-List.getD_eq_getElem?_getD,hi,hb]
    ·rw[hb]at h3;simpa using h3
    ·rw[aF (by omega) (by omega)];simp
  ·have hz:bs.length-i=0:=by omega
   rw[hz]at h3
   simp only[f0,List.append_nil]at h3
   refine⟨_,_,_,_,_,_,V3 ct nl cap bs i out.length out, ?_,by simp,.inr ⟨rfl,by rw[h3]⟩⟩
   simp;omega
theorem aA1 {ct:CT} (hct:bL Tryz.prog ct):aR Tryz.prog 69 JQ:=by
 intro args h res h' o he ho
 unfold JQ at he
 split at he
 ·rename_i nl bs len cap
  simp only[Option.some.injEq,Prod.mk.injEq]at he
  obtain⟨rfl,rfl,rfl⟩:=he
  have hl:bs.length≤274877906944:=by simpa using ho
  refine bF.len ⟨f112,by kernel_rfl,by kernel_rfl,by kernel_rfl⟩ fun hlen=> ?_
  have:len=bs.length:=by have:=hlen _ (List.mem_singleton.2 rfl);simpa [AV.lenOk,aI.lenOk,Con.size]using this
  subst this
  exact cA hct (fn:=f112) (lc:=[(0,⟨aE f112 0,vK nl cap bs 0 0 [],.normal,NX (flg bs).length (flg bs)⟩)]) (fuel:=100) (p:=[]) (o:=⟨_,_,true,[vK nl cap bs 0 0 []=vK nl cap bs 0 0 []]⟩) (by kernel_rfl) (by kernel_rfl) (by kernel_rfl) rfl
   (by simp) (fun c hc=>aL.cons (c:=c) (by cases hc;kernel_rfl) (by cases hc;exact a8V hct nl cap bs hl) aL.nil)
 ·cases he
end
section
def fok (n:Int):Bool:=decide (0≤n)&&decide (n≤30)
theorem eL {n:Int}:fok n=true↔0≤n∧n≤30:=by simp[fok]
theorem cQ {i:Int} (h0: -9223372036854775808≤i) (h1:i<9223372036854775808):IntKind.i64.wrap i=i:=by
 simp[IntKind.wrap,IntKind.bits,IntKind.signed]
 omega
theorem OY (n:Int):(IntKind.i64.wrap (n.tmod 31+31)).tmod 31=n%31:=by
 have h1: -31<n.tmod 31:=Int.lt_tmod_of_pos n (by omega)
 have h2:n.tmod 31<31:=Int.tmod_lt_of_pos n (by omega)
 rw[cQ (by omega) (by omega),Int.tmod_eq_emod_of_nonneg (by omega),Int.add_emod_right]
 rcases Int.le_total 0 n with h|h
 ·rw[Int.tmod_eq_emod_of_nonneg h];omega
 ·have:n.tmod 31= -((-n).tmod 31):=by rw[Int.neg_tmod];simp
  rw[this,Int.tmod_eq_emod_of_nonneg (by omega)];omega
def bet (n lo hi:Int):Bool:=decide (lo≤n)&&decide (n≤hi)
def w3:aO:=fun args h=>
 match args,h with
 |[.c (.int .i64 n),.c (.int .i64 lo),.c (.int .i64 hi)],[]=>some (.c (.bool (bet n lo hi)),[],[])
 |_,_=>none
theorem aA6:aR Tryz.prog 120 w3:=by
 intro args h res h' o he ho
 unfold w3 at he
 split at he
 ·rename_i n lo hi
  simp only[Option.some.injEq,Prod.mk.injEq]at he
  obtain⟨rfl,rfl,rfl⟩:=he
  by_cases hc:n≥lo
  ·have e:aJ tt (aH []) [] 100 Tryz.f120 [.c (.int .i64 n),.c (.int .i64 lo),.c (.int .i64 hi)] [] [(0,true)]=some ⟨.c (.bool (bif decide (n≥lo)then decide (n≤hi)else false)),[],decide (n≥lo)&&(decide (n≥lo)&&(decide (n≥lo)&&true)),[]⟩:=by kernel_rfl
   have hr:(bif decide (n≥lo)then decide (n≤hi)else false)=bet n lo hi:=by
    have:lo≤n:=hc
    simp[bet,this]
   rw[hr]at e
   exact mo (aQ (aA.nil _)) e (by simp[hc])
  ·have e:aJ tt (aH []) [] 100 Tryz.f120 [.c (.int .i64 n),.c (.int .i64 lo),.c (.int .i64 hi)] [] [(0,false)]=some ⟨.c (.bool false),[], !decide (n≥lo)&&(!decide (n≥lo)&&(!decide (n≥lo)&&(!decide (n≥lo)&&true))),[]⟩:=by kernel_rfl
   have hr:false=bet n lo hi:=by
    have: ¬lo≤n:=hc
    simp[bet,this]
   rw[hr]at e
   exact mo (aQ (aA.nil _)) e (by simp;omega)
 ·cases he
theorem m61:aR Tryz.prog 58 w3:=by
 intro args h res h' o he ho
 unfold w3 at he
 split at he
 ·rename_i n lo hi
  simp only[Option.some.injEq,Prod.mk.injEq]at he
  obtain⟨rfl,rfl,rfl⟩:=he
  by_cases hc:n≥lo
  ·have e:aJ tt (aH []) [] 100 Tryz.f58 [.c (.int .i64 n),.c (.int .i64 lo),.c (.int .i64 hi)] [] [(0,true)]=some ⟨.c (.bool (bif decide (n≥lo)then decide (n≤hi)else false)),[],decide (n≥lo)&&(decide (n≥lo)&&(decide (n≥lo)&&true)),[]⟩:=by kernel_rfl
   have hr:(bif decide (n≥lo)then decide (n≤hi)else false)=bet n lo hi:=by
    have:lo≤n:=hc
    simp[bet,this]
   rw[hr]at e
   exact mo (aQ (aA.nil _)) e (by simp[hc])
  ·have e:aJ tt (aH []) [] 100 Tryz.f58 [.c (.int .i64 n),.c (.int .i64 lo),.c (.int .i64 hi)] [] [(0,false)]=some ⟨.c (.bool false),[], !decide (n≥lo)&&(!decide (n≥lo)&&(!decide (n≥lo)&&(!decide (n≥lo)&&true))),[]⟩:=by kernel_rfl
   have hr:false=bet n lo hi:=by
    have: ¬lo≤n:=hc
    simp[bet,this]
   rw[hr]at e
   exact mo (aQ (aA.nil _)) e (by simp;omega)
 ·cases he
def A0:aO:=fun args h=>
 match args,h with
 |[.c (.int .i64 n)],[]=>some (.c (.int .i64 (n%31)),[],[])
 |_,_=>none
theorem a1U:aR Tryz.prog 265 A0:=by
 intro args h res h' o he ho
 unfold A0 at he
 split at he
 ·rename_i n
  simp only[Option.some.injEq,Prod.mk.injEq]at he
  obtain⟨rfl,rfl,rfl⟩:=he
  have e:aJ tt (aH []) [] 100 Tryz.f265 [.c (.int .i64 n)] [] []=some ⟨.c (.int .i64 ((IntKind.i64.wrap (n.tmod 31+31)).tmod 31)),[],true,[]⟩:=by kernel_rfl
  rw[OY]at e
  exact mo (aQ (aA.nil _)) e rfl
 ·cases he
def inv (n:Int):Int:=[0,1,16,21,8,25,26,9,4,7,28,17,13,12,20,29,2,11,19,18,14,3,24,27,22,5,6,23,10,15,30].getD n.toNat 0
def w5:aO:=fun args h=>
 match args,h with
 |[.c (.int .i64 n)],[]=>some (.c (.int .i64 (inv n)),[],[fok n])
 |_,_=>none
theorem PJ {q:Int→Prop} (h: ∀k:Nat,k<31→q k) {n:Int} (hn:fok n=true):q n:=by
 obtain⟨h0,h1⟩:=eL.1 hn
 have:=h n.toNat (by omega)
 rwa[show(n.toNat:Int)=n from by omega]at this
def cN (f:Nat→Bool):Nat→Bool
 |0=>true
 |n+1=>f n&&cN f n
theorem aX {f:Nat→Bool}: ∀ {n:Nat},cN f n=true→ ∀k,k<n→f k=true
 |0,_,k,h=>absurd h (by omega)
 |n+1,h,k,hk=>by
  simp only[cN,Bool.and_eq_true,rpS]at h
  by_cases e:k=n
  ·subst e;exact h.1
  ·exact aX h.2 k (by omega)
def k9 (r:Option sF) (n:Int):Bool:=
 match r with
 |some ⟨.c (.int .i64 m),[],true,[]⟩=>m==n
 |_=>false
theorem iB {r:Option sF} {n:Int} (h:k9 r n=true):r=some ⟨.c (.int .i64 n),[],true,[]⟩:=by
 unfold k9 at h
 split at h
 ·simp at h;subst h;rfl
 ·cases h
def T2a:List aZ:=[⟨265,[],A0⟩]
theorem t2a:bL Tryz.prog (aH T2a):=aQ (aA.cons (e:=⟨265,[],A0⟩) a1U (aA.nil _))
theorem aBE:aR Tryz.prog 283 w5:=by
 intro args h res h' o he ho
 unfold w5 at he
 split at he
 ·rename_i n
  simp only[Option.some.injEq,Prod.mk.injEq]at he
  obtain⟨rfl,rfl,rfl⟩:=he
  refine PJ (q:=fun n=>bF Tryz.prog _ [.c (.int .i64 n)] [] (.c (.int .i64 (inv n))) []) (fun k hk=> ?_) (ho _ (List.mem_singleton.2 rfl))
  have all:cN (fun k=>k9 (aJ tt (aH T2a) [] 1000 Tryz.f283 [.c (.int .i64 k)] [] []) (inv k)) 31=true:=by kernel_rfl
  have e:=iB (aX all k hk)
  exact mo t2a e rfl
 ·cases he
theorem aBC:aR Tryz.prog 269 w5:=by
 intro args h res h' o he ho
 unfold w5 at he
 split at he
 ·rename_i n
  simp only[Option.some.injEq,Prod.mk.injEq]at he
  obtain⟨rfl,rfl,rfl⟩:=he
  refine PJ (q:=fun n=>bF Tryz.prog _ [.c (.int .i64 n)] [] (.c (.int .i64 (inv n))) []) (fun k hk=> ?_) (ho _ (List.mem_singleton.2 rfl))
  have all:cN (fun k=>k9 (aJ tt (aH []) [] 1000 Tryz.f269 [.c (.int .i64 k)] [] []) (inv k)) 31=true:=by kernel_rfl
  have e:=iB (aX all k hk)
  exact mo (aQ (aA.nil _)) e rfl
 ·cases he
def T2:List aZ:=[⟨265,[],A0⟩,⟨120,[],w3⟩,⟨58,[],w3⟩,⟨283,[],w5⟩,⟨269,[],w5⟩,⟨69,[],JQ⟩]
theorem e2:aA Tryz.prog T2:=by
 intro e he
 simp only[T2,List.mem_cons,List.not_mem_nil,or_false]at he
 rcases he with rfl|rfl|rfl|rfl|rfl|rfl
 ·exact a1U
 ·exact aA6
 ·exact m61
 ·exact aBE
 ·exact aBC
 ·exact aA1 (aQ (aA.nil _))
theorem t2:bL Tryz.prog (aH T2):=aQ e2
end
section
def w4:aO:=fun args h=>
 match args,h with
 |[.c (.int .i64 n)],[]=>some (.c (.bool (fok n)),[],[])
 |_,_=>none
def g7 (lo hi:Int):aO:=fun args h=>
 match args,h with
 |[.c (.int .i64 n)],[]=>some (.c (.bool (bet n lo hi)),[],[])
 |_,_=>none
def D5:aO:=fun args h=>
 match args,h with
 |[.c (.int .i64 n),.c (.int .i64 m)],[]=>some (.c (.int .i64 ((n+m)%31)),[],[fok n,fok m])
 |_,_=>none
def y5:aO:=fun args h=>
 match args,h with
 |[.c (.int .i64 n),.c (.int .i64 m)],[]=>some (.c (.int .i64 ((n*m)%31)),[],[fok n,fok m])
 |_,_=>none
def xW:aO:=fun args h=>
 match args,h with
 |[.c (.int .i64 n),.c (.int .i64 m)],[]=>some (.c (.int .i64 ((n-m)%31)),[],[fok n,fok m])
 |_,_=>none
theorem CO {n m:Int} (hn:fok n=true) (hm:fok m=true):IntKind.i64.wrap (n+m)=n+m:=by
 obtain⟨a,b⟩:=eL.1 hn;obtain⟨c,d⟩:=eL.1 hm
 exact cQ (by omega) (by omega)
theorem NJ {n m:Int} (hn:fok n=true) (hm:fok m=true):IntKind.i64.wrap (n-m)=n-m:=by
 obtain⟨a,b⟩:=eL.1 hn;obtain⟨c,d⟩:=eL.1 hm
 exact cQ (by omega) (by omega)
theorem kX {n m:Int} (hn:fok n=true) (hm:fok m=true):0≤n*m∧n*m≤900:=by
 obtain⟨a,b⟩:=eL.1 hn;obtain⟨c,d⟩:=eL.1 hm
 refine⟨Int.mul_nonneg a c, ?_⟩
 have:=Int.mul_le_mul b d c (by omega:(0:Int)≤30)
 omega
theorem oF {n m:Int} (hn:fok n=true) (hm:fok m=true):IntKind.i64.wrap (n*m)=n*m:=by
 obtain⟨a,b⟩:=kX hn hm
 exact cQ (by omega) (by omega)
theorem aA7:aR Tryz.prog 215 w4:=by
 intro args h res h' o he ho
 unfold w4 at he
 split at he
 ·rename_i n
  simp only[Option.some.injEq,Prod.mk.injEq]at he
  obtain⟨rfl,rfl,rfl⟩:=he
  have e:aJ tt (aH T2) [] 100 Tryz.f215 [.c (.int .i64 n)] [] []=some ⟨.c (.bool (fok n)),[],true,[]⟩:=by kernel_rfl
  exact mo t2 e rfl
 ·cases he
theorem a9T:aR Tryz.prog 155 w4:=by
 intro args h res h' o he ho
 unfold w4 at he
 split at he
 ·rename_i n
  simp only[Option.some.injEq,Prod.mk.injEq]at he
  obtain⟨rfl,rfl,rfl⟩:=he
  have e:aJ tt (aH T2) [] 100 Tryz.f155 [.c (.int .i64 n)] [] []=some ⟨.c (.bool (fok n)),[],true,[]⟩:=by kernel_rfl
  exact mo t2 e rfl
 ·cases he
theorem m68:aR Tryz.prog 87 (g7 1 2):=by
 intro args h res h' o he ho
 unfold g7 at he
 split at he
 ·rename_i n
  simp only[Option.some.injEq,Prod.mk.injEq]at he
  obtain⟨rfl,rfl,rfl⟩:=he
  have e:aJ tt (aH T2) [] 100 Tryz.f87 [.c (.int .i64 n)] [] []=some ⟨.c (.bool (bet n 1 2)),[],true,[]⟩:=by kernel_rfl
  exact mo t2 e rfl
 ·cases he
theorem m79:aR Tryz.prog 77 (g7 0 7):=by
 intro args h res h' o he ho
 unfold g7 at he
 split at he
 ·rename_i n
  simp only[Option.some.injEq,Prod.mk.injEq]at he
  obtain⟨rfl,rfl,rfl⟩:=he
  have e:aJ tt (aH T2) [] 100 Tryz.f77 [.c (.int .i64 n)] [] []=some ⟨.c (.bool (bet n 0 7)),[],true,[]⟩:=by kernel_rfl
  exact mo t2 e rfl
 ·cases he
theorem m69:aR Tryz.prog 177 (g7 1 99):=by
 intro args h res h' o he ho
 unfold g7 at he
 split at he
 ·rename_i n
  simp only[Option.some.injEq,Prod.mk.injEq]at he
  obtain⟨rfl,rfl,rfl⟩:=he
  have e:aJ tt (aH T2) [] 100 Tryz.f177 [.c (.int .i64 n)] [] []=some ⟨.c (.bool (bet n 1 99)),[],true,[]⟩:=by kernel_rfl
  exact mo t2 e rfl
 ·cases he
theorem m54:aR Tryz.prog 85 (g7 1 2):=by
 intro args h res h' o he ho
 unfold g7 at he
 split at he
 ·rename_i n
  simp only[Option.some.injEq,Prod.mk.injEq]at he
  obtain⟨rfl,rfl,rfl⟩:=he
  have e:aJ tt (aH T2) [] 100 Tryz.f85 [.c (.int .i64 n)] [] []=some ⟨.c (.bool (bet n 1 2)),[],true,[]⟩:=by kernel_rfl
  exact mo t2 e rfl
 ·cases he
theorem aAU:aR Tryz.prog 231 D5:=by
 intro args h res h' o he ho
 unfold D5 at he
 split at he
 ·rename_i n m
  simp only[Option.some.injEq,Prod.mk.injEq]at he
  obtain⟨rfl,rfl,rfl⟩:=he
  have e:aJ tt (aH T2) [] 100 Tryz.f231 [.c (.int .i64 n),.c (.int .i64 m)] [] []=some ⟨.c (.int .i64 ((IntKind.i64.wrap (n+m))%31)),[],true,[]⟩:=by kernel_rfl
  rw[CO (ho (fok n) (by simp)) (ho (fok m) (by simp))]at e
  exact mo t2 e rfl
 ·cases he
theorem aAV:aR Tryz.prog 232 y5:=by
 intro args h res h' o he ho
 unfold y5 at he
 split at he
 ·rename_i n m
  simp only[Option.some.injEq,Prod.mk.injEq]at he
  obtain⟨rfl,rfl,rfl⟩:=he
  have e:aJ tt (aH T2) [] 100 Tryz.f232 [.c (.int .i64 n),.c (.int .i64 m)] [] []=some ⟨.c (.int .i64 ((IntKind.i64.wrap (n*m))%31)),[],true,[]⟩:=by kernel_rfl
  rw[oF (ho (fok n) (by simp)) (ho (fok m) (by simp))]at e
  exact mo t2 e rfl
 ·cases he
theorem aB7:aR Tryz.prog 260 xW:=by
 intro args h res h' o he ho
 unfold xW at he
 split at he
 ·rename_i n m
  simp only[Option.some.injEq,Prod.mk.injEq]at he
  obtain⟨rfl,rfl,rfl⟩:=he
  have e:aJ tt (aH T2) [] 100 Tryz.f260 [.c (.int .i64 n),.c (.int .i64 m)] [] []=some ⟨.c (.int .i64 ((IntKind.i64.wrap (n-m))%31)),[],true,[]⟩:=by kernel_rfl
  rw[NJ (ho (fok n) (by simp)) (ho (fok m) (by simp))]at e
  exact mo t2 e rfl
 ·cases he
def T3:List aZ:=[⟨215,[],w4⟩,⟨155,[],w4⟩,⟨87,[],g7 1 2⟩,⟨77,[],g7 0 7⟩,⟨177,[],g7 1 99⟩,⟨85,[],g7 1 2⟩,⟨231,[],D5⟩,⟨232,[],y5⟩,⟨260,[],xW⟩]++T2
theorem e3:aA Tryz.prog T3:=by
 refine aA.append ?_ e2
 intro e he
 simp only[List.mem_cons,List.not_mem_nil,or_false]at he
 rcases he with rfl|rfl|rfl|rfl|rfl|rfl|rfl|rfl|rfl
 ·exact aA7
 ·exact a9T
 ·exact m68
 ·exact m79
 ·exact m69
 ·exact m54
 ·exact aAU
 ·exact aAV
 ·exact aB7
theorem t3:bL Tryz.prog (aH T3):=aQ e3
end
end Go.Proofs.YtdnfojanjejdgaaGreat.Am
