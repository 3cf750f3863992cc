/- DERIVED. Part 2 of the proof: Am19, Am20, Am21, Am22, Am23, Am24, Am25, Am26, Tab, B0, C1, C2, C3, C4, C5, C6, C7, C8, C9, C10, C11, C12, C13, C14, C15. No statement of the program is proved here. -/
import Derived.Test.YthapjdpkelihiaaGreatX01
import Derived.Test.YthapjdpkelihiaaGreatProg
set_option linter.unusedSimpArgs false
set_option linter.unusedVariables false
set_option linter.unusedSectionVars false
namespace Go.Proofs.YthapjdpkelihiaaGreat.Am
section
variable {X : Nat → Prop}
def iY:Code→List (Nat×Code)
 |.block id c=>(id,c)::iY c
 |.seq a b=>iY a++iY b
 |.cond _ a b=>iY a++iY b
 |.loop c=>iY c
 |_=>[]
def aI (P:Program) (m:Nat) (lc:List (Nat×LC)) (c:Code):Prop:=
 ∀q∈iY c,∀x,xH lc q.1=some x→aS P m (.block q.1 q.2) x.pre fun e s=>e=x.ex∧s=x.post
section
variable {P : Program} {tt : Tab} (hT : iV P tt) {ct : CT} (hct : bJ P ct) (bK : P.follows .mixedOrders = true)
theorem qJ {c:Code} {Q Q':Exit→Act→World→Prop} (h: ∀e a w,Q e a w→Q' e a w): ∀ {n:Nat} {a:Act} {w:World},Code.rounds P c Q n a w→Code.rounds P c Q' n a w
 |0,_,_,hr=>hr
 |n+1,a,w,hr=>by
  rw[rounds_succ]at hr⊢
  refine wp_mono hr fun e a w he=> ?_
  cases e with
  |normal=>exact qJ h he
  |exit id=>exact h _ _ _ he
  |goto l=>exact h _ _ _ he
  |ret=>exact h _ _ _ he
  |panic c=>exact h _ _ _ he
  |outgrown=>exact h _ _ _ he
theorem gZ {w0:World} {ρ0:Rho} {Q:Ex→St→Prop} {K:Act→World→Prop} {Q':Exit→Act→World→Prop} (hn: ∀s ρ a w,Q .normal s→Rel X w0 ρ0 s ρ a w→K a w)
  (he: ∀x s ρ a w,x≠ .normal→Q x s→Rel X w0 ρ0 s ρ a w→Q' (tV x) a w): ∀e a w,s0 X w0 ρ0 Q e a w→Exit.then K Q' e a w:=by
 rintro e a w ⟨x,s,ρ,rfl,h1,h2⟩
 cases x with
 |normal=>exact hn s ρ a w h1 h2
 |exit id=>exact he (.exit id) s ρ a w (by simp) h1 h2
 |ret=>exact he .ret s ρ a w (by simp) h1 h2
include hT hct bK in
theorem jY {m:Nat} {lc:List (Nat×LC)}: ∀(n:Nat) {c:Code} {s:St} {p:i6} {o:Out},aG tt ct lc m n c s p=some o→(∀b∈o.obl,b=true)→(∀q∈o.eqs,q)→aI P m lc c→
  aS P m c s (fun e t=>e=o.ex∧t=o.st)∧ ∀body,c=.loop body→ ∀ ⦃X:Nat→Prop⦄ ⦃w0:World⦄ ⦃ρ0 ρ:Rho⦄ ⦃a:Act⦄ ⦃w:World⦄,(∀k,m≤k→ρ0 k=.unborn)→Rel X w0 ρ0 s ρ a w→Code.rounds P body (s0 X w0 ρ0 fun e t=>e=o.ex∧t=o.st) n a w:=by
 intro n
 induction n with
 |zero=>intro c s p o h;simp[aG]at h
 |succ n ih=>
  intro c s p o h ho hq hlc
  cases c with
  |skip=>
   simp only[aG,Option.some.injEq]at h;subst h
   exact⟨fun _ _ _ _ _ _ h0 r=>wp_skip ⟨.normal,s,_,rfl,⟨rfl,rfl⟩,r⟩,fun _ h=>by cases h⟩
  |label l=>
   simp only[aG,Option.some.injEq]at h;subst h
   exact⟨fun _ _ _ _ _ _ h0 r=>wp_label ⟨.normal,s,_,rfl,⟨rfl,rfl⟩,r⟩,fun _ h=>by cases h⟩
  |ret=>
   simp only[aG,Option.some.injEq]at h;subst h
   exact⟨fun _ _ _ _ _ _ h0 r=>wp_ret ⟨.ret,s,_,rfl,⟨rfl,rfl⟩,r⟩,fun _ h=>by cases h⟩
  |exit id=>
   simp only[aG,Option.some.injEq]at h;subst h
   exact⟨fun _ _ _ _ _ _ h0 r=>wp_exit ⟨.exit id,s,_,rfl,⟨rfl,rfl⟩,r⟩,fun _ h=>by cases h⟩
  |region id ops draw=>
   simp only[aG]at h
   split at h
   ·cases h
   ·rename_i rs s' p' b hrun
    cases hd:(!draw||rG ops rs)with
    |false=>rw[hd]at h;cases h
    |true=>
     rw[hd]at h
     simp only[cond_true,Option.some.injEq]at h;subst h
     exact⟨xU hT hct bK hrun ho hd,fun _ h=>by cases h⟩
  |seq x y=>
   refine⟨?_,fun _ h=>by cases h⟩
   simp only[aG]at h
   have hlx:aI P m lc x:=fun q hq=>hlc q (List.mem_append_left _ hq)
   have hly:aI P m lc y:=fun q hq=>hlc q (List.mem_append_right _ hq)
   split at h
   ·rename_i s1 p1 o1 q1 h1
    split at h
    ·rename_i e2 s2 p2 o2 q2 h2
     simp only[Option.some.injEq]at h;subst h
     have g1:=(ih h1 (fun b hb=>ho b (List.mem_append_left _ hb)) (fun q hq'=>hq q (List.mem_append_left _ hq')) hlx).1
     have g2:=(ih h2 (fun b hb=>ho b (List.mem_append_right _ hb)) (fun q hq'=>hq q (List.mem_append_right _ hq')) hly).1
     intro X w0 ρ0 ρ a w h0 r
     refine wp_seq (wp_mono (g1 h0 r) (gZ (fun t ρ a w ht r=> ?_) (fun e t ρ a w hne ht r=> ?_)))
     ·obtain⟨_,rfl⟩:=ht;exact g2 h0 r
     ·exact absurd ht.1 hne
    ·cases h
   ·rename_i r1 hne
    cases hr:aG tt ct lc m n x s p with
    |none=>rw[hr]at h;cases h
    |some o1=>
     rw[hr]at h
     simp only[Option.some.injEq]at h;subst h
     have g1:=(ih hr ho hq hlx).1
     intro X w0 ρ0 ρ a w h0 r
     have hnn:o1.ex≠ .normal:=fun e=>by
      obtain⟨ex,st,pa,ob,eq⟩:=o1
      dsimp only at e;subst e
      exact hne _ _ _ _ hr
     refine wp_seq (wp_mono (g1 h0 r) (gZ (fun t ρ a w ht r=>absurd ht.1.symm hnn) (fun e t ρ a w hne ht r=>⟨e,t,ρ,rfl,ht,r⟩)))
  |cond x a b=>
   refine⟨?_,fun _ h=>by cases h⟩
   simp only[aG]at h
   split at h
   ·cases h
   ·rename_i t p1 hp
    split at h
    ·rename_i v hv
     split at h
     ·rename_i e s1 p2 o1 q1 h1
      simp only[Option.some.injEq]at h;subst h
      have hb:(bif t then v else !v)=true:=ho _ List.mem_cons_self
      have htv:v=t:=by cases t<;>cases v<;>simp at hb⊢
      subst htv
      have hl1:aI P m lc (bif v then a else b):=fun q hq=>hlc q (by cases v with
       |false=>exact List.mem_append_right _ hq
       |true=>exact List.mem_append_left _ hq)
      have g1:=(ih h1 (fun b hb=>ho b (List.mem_cons_of_mem _ hb)) hq hl1).1
      intro X w0 ρ0 ρ a w h0 r
      have hev:=r.ev x
      rw[hv]at hev
      have hx:=g7 hev
      refine wp_cond hx ?_
      have:=g1 h0 r
      cases v<;>exact this
     ·cases h
    ·cases h
  |block id body=>
   refine⟨?_,fun _ h=>by cases h⟩
   simp only[aG]at h
   split at h
   ·rename_i x hx
    simp only[Option.some.injEq]at h;subst h
    have h3:fit m x.live s=x.pre:=hq _ (by simp)
    have g:=hlc (id,body) List.mem_cons_self x hx
    rw[←h3]at g
    exact(cT.fit m x.live s).good g
   ·have hlb:aI P m lc body:=fun q hq=>hlc q (List.mem_cons_of_mem _ hq)
    split at h
    ·rename_i k s1 p1 o1 q1 h1
     simp only[Option.some.injEq]at h;subst h
     have g1:=(ih h1 ho hq hlb).1
     intro X w0 ρ0 ρ a w h0 r
     refine wp_block (wp_mono (g1 h0 r) ?_)
     rintro e a w ⟨x,t,ρ,rfl,⟨hx,rfl⟩,r'⟩
     dsimp only at hx;subst hx
     simp only[tV,Exit.inBlock]
     split
     ·exact⟨.normal,t,ρ,rfl,⟨rfl,rfl⟩,r'⟩
     ·exact⟨.exit k,t,ρ,rfl,⟨rfl,rfl⟩,r'⟩
    ·rename_i r1 hne
     have g1:=(ih h ho hq hlb).1
     intro X w0 ρ0 ρ a w h0 r
     refine wp_block (wp_mono (g1 h0 r) ?_)
     rintro e a w ⟨x,t,ρ,rfl,⟨hx,rfl⟩,r'⟩
     cases x with
     |normal=>exact⟨.normal,_,ρ,rfl,⟨hx,rfl⟩,r'⟩
     |ret=>exact⟨.ret,_,ρ,rfl,⟨hx,rfl⟩,r'⟩
     |exit k=>
      exfalso
      obtain⟨ex,st,pa,ob,eq⟩:=o
      dsimp only at hx;subst hx
      exact hne _ _ _ _ _ h
  |loop body=>
   simp only[aG]at h
   have hlb:aI P m lc body:=fun q hq=>hlc q hq
   have hr: ∀ ⦃X:Nat→Prop⦄ ⦃w0:World⦄ ⦃ρ0 ρ:Rho⦄ ⦃a:Act⦄ ⦃w:World⦄,(∀k,m≤k→ρ0 k=.unborn)→Rel X w0 ρ0 s ρ a w→Code.rounds P body (s0 X w0 ρ0 fun e t=>e=o.ex∧t=o.st) (n+1) a w:=by
    split at h
    ·rename_i s1 p1 o1 q1 h1
     split at h
     ·rename_i e2 s2 p2 o2 q2 h2
      simp only[Option.some.injEq]at h;subst h
      have g1:=(ih h1 (fun b hb=>ho b (List.mem_append_left _ hb)) (fun q hq'=>hq q (List.mem_append_left _ hq')) hlb).1
      have g2:=(ih h2 (fun b hb=>ho b (List.mem_append_right _ hb)) (fun q hq'=>hq q (List.mem_append_right _ hq')) hlc).2
      intro X w0 ρ0 ρ a w h0 r
      rw[rounds_succ]
      refine wp_mono (g1 h0 r) (gZ (fun t ρ a w ht r=> ?_) (fun e t ρ a w hne ht r=>absurd ht.1 hne))
      obtain⟨_,rfl⟩:=ht
      exact g2 body rfl h0 r
     ·cases h
    ·rename_i r1 hne
     have g1:=(ih h ho hq hlb).1
     intro X w0 ρ0 ρ a w h0 r
     have hnn:o.ex≠ .normal:=fun e=>by
      obtain⟨ex,st,pa,ob,eq⟩:=o
      dsimp only at e;subst e
      exact hne _ _ _ _ h
     rw[rounds_succ]
     exact wp_mono (g1 h0 r) (gZ (fun t ρ a w ht r=>absurd ht.1.symm hnn) (fun e t ρ a w hne ht r=>⟨e,t,ρ,rfl,ht,r⟩))
   exact⟨fun _ _ _ _ _ _ h0 r=>wp_loop_rounds (n+1) (hr h0 r),fun b hb=>by cases hb;exact hr⟩
  |scope c=>simp[aG]at h
  |goto l=>simp[aG]at h
  |rangeFunc f ps x y=>simp[aG]at h
  |refuse w=>simp[aG]at h
theorem aS.loop {α:Type} {m:Nat} {body:Code} (I:α→St) (μ:α→Nat) (Q:α→Ex→St→Prop)
  (h: ∀x,aS P m body (I x) fun e s=>(e=.normal∧ ∃y,μ y<μ x∧cT m s (I y)∧ ∀e t,Q y e t→Q x e t)∨(e≠ .normal∧Q x e s)): ∀x,aS P m (.loop body) (I x) (Q x):=by
 intro x X w0 ρ0 ρ a w h0 r
 have key: ∀n x ρ a w,μ x<n→Rel X w0 ρ0 (I x) ρ a w→Code.rounds P body (s0 X w0 ρ0 (Q x)) n a w:=by
  intro n
  induction n with
  |zero=>intro x ρ a w hl;omega
  |succ n ih=>
   intro x ρ a w hl r
   rw[rounds_succ]
   refine wp_mono (h x h0 r) (gZ (fun t ρ a w ht r=> ?_) (fun e t ρ a w hne ht r=> ?_))
   ·rcases ht with⟨_,y,hy,hw,hq⟩|⟨hne,_⟩
    ·obtain⟨ρ',r'⟩:=hw h0 r
     exact qJ (s0.mono hq) (ih y ρ' a w (by omega) r')
    ·exact absurd rfl hne
   ·rcases ht with⟨he,_⟩|⟨_,hq⟩
    ·exact absurd he hne
    ·exact⟨e,t,ρ,rfl,hq,r⟩
 exact wp_loop_rounds (μ x+1) (key _ x ρ a w (Nat.lt_succ_self _) r)
theorem aS.block {m id:Nat} {c:Code} {s:St} {Q:Ex→St→Prop} (g:aS P m c s fun e t=>(e=.exit id∧Q .normal t)∨(e≠ .exit id∧Q e t)):aS P m (.block id c) s Q:=by
 intro X w0 ρ0 ρ a w h0 r
 refine wp_block (wp_mono (g h0 r) ?_)
 rintro e a w ⟨x,t,ρ,rfl,hx,r'⟩
 rcases hx with⟨rfl,hq⟩|⟨hne,hq⟩
 ·simp only[tV,Exit.inBlock,if_true]
  exact⟨.normal,t,ρ,rfl,hq,r'⟩
 ·cases x with
  |normal=>exact⟨.normal,t,ρ,rfl,hq,r'⟩
  |ret=>exact⟨.ret,t,ρ,rfl,hq,r'⟩
  |exit k=>
   simp only[tV,Exit.inBlock]
   rw[if_neg (fun e=>hne (by rw[e]))]
   exact⟨.exit k,t,ρ,rfl,hq,r'⟩
theorem aS.weaken {m:Nat} {c:Code} {s:St} {Q Q':Ex→St→Prop} (g:aS P m c s Q) (h: ∀e t,Q e t→ ∃t',cT m t t'∧Q' e t'):aS P m c s Q':=fun _ _ _ _ _ _ h0 r=>
 wp_mono (g h0 r) fun _ _ _ ⟨x,t,ρ,h1,h2,h3⟩=>by
  obtain⟨t',hw,hq⟩:=h x t h2
  obtain⟨ρ',r'⟩:=hw h0 h3
  exact⟨x,t',ρ',h1,hq,r'⟩
def C0 (id:Nat) (c:Code):List Code:=((iY c).filter fun q=>q.1==id).map (·.2)
def a0 (id:Nat) (c:Code):Code:=
 match C0 id c with
 |[.loop b]=>b
 |_=> .skip
def CB (id:Nat) (c:Code):Bool:=
 match C0 id c with
 |[.loop _]=>true
 |_=>false
theorem zE {id:Nat} {c:Code} (h:CB id c=true): ∀q∈iY c,q.1=id→q.2=.loop (a0 id c):=by
 intro q hq hid
 have hm:q.2∈C0 id c:=List.mem_map.2 ⟨q,List.mem_filter.2 ⟨hq,by simp[hid]⟩,rfl⟩
 unfold CB at h
 split at h
 ·rename_i b hb
  rw[hb]at hm
  have:a0 id c=b:=by unfold a0;rw[hb]
  rw[this];simpa using hm
 ·cases h
theorem aI.nil {m:Nat} {c:Code}:aI P m [] c:=by intro q hq x hx;cases hx
theorem aI.cons {m id:Nat} {c:Code} {x:LC} {lc:List (Nat×LC)} (hl:CB id c=true) (g:aS P m (.block id (.loop (a0 id c))) x.pre fun e s=>e=x.ex∧s=x.post) (r:aI P m lc c):
  aI P m ((id,x)::lc) c:=by
 intro q hq y hy
 simp only[xH]at hy
 split at hy
 ·rename_i e
  injection hy with hy;subst hy
  rw[zE hl q hq e.symm,←e];exact g
 ·exact r q hq y hy
include hT hct bK in
theorem aS.rounds {m id:Nat} {body:Code} {α:Type} (Inv:α→Prop) (I:α→St) (μ:α→Nat) (live liveX:List Nat) (ex:α→Ex) (post:α→St) (lc:α→List (Nat×LC))
  (hlc: ∀x,Inv x→aI P m (lc x) body)
  (h: ∀x,Inv x→ ∃n p o,aG tt ct (lc x) m n body (I x) p=some o∧(∀b∈o.obl,b=true)∧(∀q∈o.eqs,q)∧
   ((o.ex=.normal∧ ∃y,Inv y∧μ y<μ x∧fit m live o.st=I y∧ex y=ex x∧post y=post x)∨(o.ex=.exit id∧ex x=.normal∧fit m liveX o.st=post x)∨
    (o.ex≠ .normal∧o.ex≠ .exit id∧ex x=o.ex∧fit m liveX o.st=post x))):
  ∀x,Inv x→aS P m (.block id (.loop body)) (I x) fun e t=>e=ex x∧t=post x:=by
 intro x0 hx0
 let Q: {x//Inv x}→Ex→St→Prop:=fun x e t=>e≠ .normal∧(if e=.exit id then ex x.1=.normal else ex x.1=e)∧fit m liveX t=post x.1
 have key:=aS.loop (P:=P) (m:=m) (body:=body) (α:= {x//Inv x}) (fun x=>I x.1) (fun x=>μ x.1) Q (fun x=>by
  obtain⟨n,p,o,he,ho,hq,hc⟩:=h x.1 x.2
  refine((jY hT hct bK n he ho hq (hlc x.1 x.2)).1).mono fun e t ⟨h1,h2⟩=> ?_
  subst h1 h2
  rcases hc with⟨hn,y,hy,hm,hf,e1,e2⟩|⟨hn,e1,e2⟩|⟨h1,h2,h3,h4⟩
  ·refine .inl ⟨hn,⟨y,hy⟩,hm,by rw[←hf];exact cT.fit m live _,fun e t hq=> ?_⟩
   simp only[Q,e1,e2]at hq⊢;exact hq
  ·refine .inr ⟨by rw[hn];simp,by rw[hn];simp,by rw[hn];simp[e1],e2⟩
  ·exact .inr ⟨h1,h1,by rw[if_neg h2];exact h3,h4⟩) ⟨x0,hx0⟩
 refine(aS.block (Q:=fun e t=>e=ex x0∧fit m liveX t=post x0) (key.mono fun e t hq=> ?_)).weaken fun e t ⟨h1,h2⟩=>⟨post x0,by rw[←h2];exact cT.fit m liveX t,h1,rfl⟩
 obtain⟨h1,h2,h3⟩:=hq
 by_cases e1:e=.exit id
 ·rw[if_pos e1]at h2
  exact .inl ⟨e1,h2.symm,h3⟩
 ·rw[if_neg e1]at h2
  exact .inr ⟨e1,h2.symm,h3⟩
def bA (P:Program) (f:FuncId) (args:List AV) (h:List aW) (res:AV) (h':List aW):Prop:=
 (∃fn,P.funcs[f]? =some fn∧fn.body.isSome=true∧(fn.name== "runtime.NumGoroutine")=false)∧
 ∀ {X:Nat→Prop} {w0:World} {ρ0:Rho},Mem X w0 (bH ρ0) h ρ0 w0→ ∀(vs:List Value),vs.length=args.length→(∀q,q<args.length→AVR X w0 ρ0 (args.getD q .any) (vs.getD q undef))→
  Calls P f vs.toArray w0 fun e w'=> ∃v ρ',e=.returned v∧eD w0 (bH ρ0) w' (bH ρ')∧cB ρ0 ρ'∧Mem X w0 (bH ρ0) h' ρ' w'∧AVR X w' ρ' res v
def vO:List Value→Value
 |[u]=>u
 |us=> .tuple us.toArray
def nQ (a:Act):ResultVar→Sem Value
 |.tmp t=>pure (a.tmps.getD t undef)
 |.cell ad t=>do loadVar t (←asAddr (a.tmps.getD ad undef))
include hT in
theorem lO {w0:World} {ρ0:Rho} {s:St} {ρ:Rho} {a:Act} {w:World} (r:Rel X w0 ρ0 s ρ a w): ∀ {l:List ResultVar} {vs:List AV} {o:List Bool},nT tt s l=some (vs,o)→(∀b∈o,b=true)→
  ∃us:List Value,(l.mapM (nQ a)).run P w=.ok us w∧us.length=vs.length∧ ∀i,i<vs.length→AVR X w ρ (vs.getD i (.tup [])) (us.getD i undef)
 |[],vs,o,h,ho=>by
  simp only[nT,Option.some.injEq,Prod.mk.injEq]at h
  obtain⟨rfl,rfl⟩:=h
  exact⟨[],by simp,rfl,fun i hi=>by simp at hi⟩
 |x::l,vs,o,h,ho=>by
  simp only[nT]at h
  split at h
  ·rename_i v o1 vs1 o2 h1 h2
   simp only[Option.some.injEq,Prod.mk.injEq]at h
   obtain⟨rfl,rfl⟩:=h
   obtain⟨us,g1,g2,g3⟩:=lO r h2 (fun b hb=>ho b (List.mem_append_right _ hb))
   have hd: ∃u,(nQ a x).run P w=.ok u w∧AVR X w ρ v u:=by
    cases x with
    |tmp t=>
     simp only[CI,Option.some.injEq,Prod.mk.injEq]at h1
     obtain⟨rfl,rfl⟩:=h1
     exact⟨_,rfl,r.ev (.tmp t)⟩
    |cell ad t=>
     simp only[CI]at h1
     obtain⟨e,he,h3⟩:=Option.map_eq_some_iff.1 h1
     injection h3 with h3 h4;subst h3 h4
     have hx:=r.ev (.tmp ad)
     obtain⟨u,q1,q2,q3,ad',q4⟩:=sT hT r.mem (get:=Heap.get s.heap) (fun _ _ h=>h) hx he (fun b hb=>ho b (List.mem_append_left _ hb))
     refine⟨u, ?_,q2⟩
     have q4':a.tmps.getD ad undef=.pointer (some ad'):=q4
     rw[q4]at q1
     simpa [nQ,q4',asAddr,Instr.loadAt,Instr.sureAddr]using q1
   obtain⟨u,d1,d2⟩:=hd
   refine⟨u::us, ?_,by simp[g2],fun i hi=> ?_⟩
   ·simp only[List.mapM_cons,Sem.run_bind,d1,Result.andThen_ok,g1,Sem.run_pure]
   ·cases i with
    |zero=>simpa using d2
    |succ i=>simpa using g3 i (by simpa using hi)
  ·cases h
theorem CL (fn:Func) (a:Act):results fn a.tmps=(do let vs←fn.results.mapM (nQ a);pure (if h:vs.size=1 then vs[0]else .tuple vs)):=by
 unfold results
 congr 1
theorem kP: ∀ {l:List Bool},H1 l=true→ ∀b∈l,b=true
 |[],_,b,h=>by cases h
 |x::r,h,b,hb=>by
  simp only[H1,Bool.and_eq_true,rpS]at h
  rcases List.mem_cons.1 hb with e|e
  ·subst e;exact h.1
  ·exact kP h.2 b e
include hT hct bK in
theorem q7 {lc:List (Nat×LC)} {fuel:Nat} {f:FuncId} {fn:Func} {args:List AV} {h:List aW} {p:i6} {o:tZ} (hf:P.funcs[f]? =some fn) (hnm:(fn.name== "runtime.NumGoroutine")=false)
  (he:aD tt ct lc fuel fn args h p=some o) (ho:o.obl=true) (hq: ∀q∈o.eqs,q) (hlc: ∀c,fn.body=some c→aI P h.length lc c):bA P f args h o.res o.heap:=by
 unfold aD at he
 split at he
 ·cases he
 ·rename_i c hbody
  refine⟨⟨fn,hf,by simp[hbody],hnm⟩,fun {X w0 ρ0} hmem vs hvl hva=> ?_⟩
  split at he
  ·cases he
  ·rename_i ex s p' o1 q hne hev
   split at he
   ·cases he
   ·rename_i rs o2 hres
    simp only[Option.some.injEq]at he
    subst he
    dsimp only at ho hq⊢
    have hob:=kP ho
    have hgood:=(jY hT hct bK fuel hev (fun b hb=>hob b (List.mem_append_left _ hb)) hq (hlc c hbody)).1
    have hrel:Rel X w0 ρ0 (E3 fn args h) ρ0 {tmps:=vs.toArray++Array.replicate (fn.ntmps-vs.toArray.size) undef,defers:=[]} w0:=by
     refine⟨by simp[E3,hvl],fun t ht=> ?_,hmem,rfl,eD.refl _ _,cB.refl _⟩
     simp only[E3]
     by_cases h1:t<args.length
     ·have:=hva t h1
      have h2:t<vs.length:=by omega
      have e1:(args++List.replicate (fn.ntmps-args.length) (AV.tup [])).getD t (.tup [])=args.getD t .any:=by
       simp[List.getD_eq_getElem?_getD,List.getElem?_append,h1]
      have e2:(vs.toArray++Array.replicate (fn.ntmps-vs.toArray.size) undef).getD t undef=vs.getD t undef:=by
       simp[Array.getD_eq_getD_getElem?,Array.getElem?_append,h2]
      rw[e1,e2];exact this
     ·have h2: ¬t<vs.length:=by omega
      have e1:(args++List.replicate (fn.ntmps-args.length) (AV.tup [])).getD t (.tup [])=.tup []:=by
       simp only[List.getD_eq_getElem?_getD,List.getElem?_append,h1,if_false,List.getElem?_replicate]
       split<;>rfl
      have e2:(vs.toArray++Array.replicate (fn.ntmps-vs.toArray.size) undef).getD t undef=undef:=by
       simp only[Array.getD_eq_getD_getElem?,Array.getElem?_append,List.size_toArray,h2,if_false,Array.getElem?_replicate]
       split<;>rfl
      rw[e1,e2];exact oN w0 ρ0
    have h0: ∀k,h.length≤k→ρ0 k=.unborn:=fun k hk=>by
     have:=hmem.slot k
     rw[Heap.get_ge hk]at this
     cases hx:ρ0 k<;>rw[hx]at this<;>first|rfl|exact this.elim
    refine calls_of_wp hf hbody (wp_mono (hgood h0 hrel) ?_)
    rintro e a w ⟨x,t,ρ,rfl,⟨hx,rfl⟩,r⟩
    dsimp only at hx r
    obtain⟨us,g1,g2,g3⟩:=lO hT r hres (fun b hb=>hob b (List.mem_append_right _ hb))
    have hrun:(results fn a.tmps).run P w=.ok (vO us) w:=by
     rw[CL]
     have e1:(fn.results.mapM (nQ a)).run P w=.ok us.toArray w:=by
      rw[Array.mapM_eq_mapM_toList]
      simp[g1]
     simp only[Sem.run_bind,e1,Result.andThen_ok,Sem.run_pure]
     congr 1
     cases us with
     |nil=>simp[vO]
     |cons u us=>cases us<;>simp[vO]
    have hres':AVR X w ρ (qX rs) (vO us):=by
     have tup:AVR X w ρ (.tup rs) (.tuple us.toArray):=.tup _ _ (by simp[g2]) fun i hi=>by
      have:=g3 i hi
      simpa [Array.getD_eq_getD_getElem?,List.getD_eq_getElem?_getD]using this
     cases rs with
     |nil=>cases us with
      |nil=>exact tup
      |cons u us=>simp at g2
     |cons v rs=>
      cases us with
      |nil=>simp at g2
      |cons u us=>
       cases rs with
       |nil=>
        cases us with
        |nil=>have:=g3 0 (by simp);simpa [qX,vO]using this
        |cons u' us=>simp at g2
       |cons v' rs=>
        cases us with
        |nil=>simp at g2
        |cons u' us=>exact tup
    have hn:cP (eG h.length (qX rs) t.heap)=true:=by
     unfold eG
     exact fD _ _ (fD _ _ (j9 _ _))
    have hroots:fC h.length 0 (eG h.length (qX rs) t.heap)=true:=by
     unfold eG
     exact fE _ _ _ _ (fE _ _ _ _ (jA _ _))
    have hend: ∃v ρ',(Ending.returned (vO us))=.returned v∧eD w0 (bH ρ0) w (bH ρ')∧cB ρ0 ρ'∧
      Mem X w0 (bH ρ0) ((eG h.length (qX rs) t.heap).map fun id=>(Heap.get t.heap id).ren (eG h.length (qX rs) t.heap)) ρ' w∧
      AVR X w ρ' ((qX rs).ren (eG h.length (qX rs) t.heap)) v:=by
     refine⟨_,bV t.heap (eG h.length (qX rs) t.heap) ρ,rfl, ?_, ?_,r.mem.ren hn,hres'.ren (dB _ _ _) (dJ _ _ _)⟩
     ·exact r.mono.trans ⟨fun _ _ _=>rfl,fun _ _=>rfl,Nat.le_refl _,fun b hb=> .inl (dB _ _ _ b hb)⟩
     ·have one: ∀k,ρ0 k≠ .unborn→bV t.heap (eG h.length (qX rs) t.heap) ρ k=ρ k∨bV t.heap (eG h.length (qX rs) t.heap) ρ k=.dead:=fun k hk=>by
       have hlt:k<h.length:=by
        rcases Nat.lt_or_ge k h.length with h'|h'
        ·exact h'
        ·exact absurd (h0 k h') hk
       have:=kG hroots k hlt
       rw[Nat.zero_add]at this
       exact eO this
      refine⟨fun id h=> ?_,fun id h=> ?_,fun id b h=> ?_⟩
      ·rcases one id (by rw[h];simp)with e|e
       ·rw[e];exact r.ids.dead id h
       ·exact e
      ·rcases one id (by rw[h];simp)with e|e
       ·rw[e];exact r.ids.nil id h
       ·exact .inr e
      ·rcases one id (by rw[h];simp)with e|e
       ·rw[e];exact r.ids.at_ id b h
       ·exact .inr e
    cases x with
    |normal=>exact⟨r.defers,_,hrun,hend⟩
    |ret=>exact⟨r.defers,_,hrun,hend⟩
    |exit k=>exact(hne k hx.symm).elim
  ·cases he
end
end
section
mutual
def aF.back (l:List Nat):aF→aF
 |.ptr id i es j=> .ptr (l.getD id 0) i es j
 |.sl id o len es cap=> .sl (l.getD id 0) o len es cap
 |.fn f caps=> .fn f (lI l caps)
 |x=>x
def lI (l:List Nat):List aF→List aF
 |[]=>[]
 |x::r=>x.back l::lI l r
end
mutual
def AV.back (l:List Nat):AV→AV
 |.any=> .any
 |.c x=> .c (x.back l)
 |.agg cs=> .agg (lI l cs)
 |.tup vs=> .tup (pU l vs)
def pU (l:List Nat):List AV→List AV
 |[]=>[]
 |x::r=>x.back l::pU l r
end
def aW.back (l:List Nat):aW→aW
 |.live (.cells cs)=> .live (.cells (lI l cs))
 |s=>s
mutual
def aF.vfree:aF→Bool
 |.vptr .. =>false
 |.view .. =>false
 |.fn _ l=>pO l
 |_=>true
def pO:List aF→Bool
 |[]=>true
 |x::r=>x.vfree&&pO r
end
mutual
def AV.vfree:AV→Bool
 |.any=>true
 |.c x=>x.vfree
 |.agg cs=>pO cs
 |.tup vs=>tW vs
def tW:List AV→Bool
 |[]=>true
 |x::r=>x.vfree&&tW r
end
def aW.vfree:aW→Bool
 |.live (.ivs ..)=>false
 |.live (.recs ..)=>false
 |.live (.cells cs)=>pO cs
 |_=>true
def aW.plain:aW→Bool
 |.live (.recs ..)=>false
 |_=>true
theorem iW (l:List Nat): ∀(cs:List aF) (i:Nat),(lI l cs).getD i .any=(cs.getD i .any).back l
 |[],i=>by simp[lI,aF.back]
 |x::r,0=>by simp[lI]
 |x::r,i+1=>by simpa [lI]using iW l r i
theorem d9 (l:List Nat): ∀cs:List aF,(lI l cs).length=cs.length
 |[]=>rfl
 |x::r=>by simp[lI,d9 l r]
theorem sB (l:List Nat): ∀(vs:List AV) (i:Nat),(pU l vs).getD i (.tup [])=(vs.getD i (.tup [])).back l
 |[],i=>by simp[pU,AV.back]
 |x::r,0=>by simp[pU]
 |x::r,i+1=>by simpa [pU]using sB l r i
theorem iX (l:List Nat): ∀cs:List AV,(pU l cs).length=cs.length
 |[]=>rfl
 |x::r=>by simp[pU,iX l r]
theorem hZ: ∀ {cs:List aF},pO cs=true→ ∀i,(cs.getD i .any).vfree=true
 |[],_,i=>by simp[aF.vfree]
 |x::r,h,i=>by
  simp only[pO,Bool.and_eq_true,rpS]at h
  cases i with
  |zero=>simpa using h.1
  |succ i=>simpa using hZ h.2 i
theorem qN: ∀ {cs:List AV},tW cs=true→ ∀i,(cs.getD i (.tup [])).vfree=true
 |[],_,i=>by simp[AV.vfree,tW]
 |x::r,h,i=>by
  simp only[tW,Bool.and_eq_true,rpS]at h
  cases i with
  |zero=>simpa using h.1
  |succ i=>simpa using qN h.2 i
def CZ (l:List Nat) (ρ1 ρ':Rho):Prop:= ∀k,ρ1 k≠ .unborn→ρ' (l.getD k 0)=ρ1 k
theorem CR0.back {w:World} {L L':Nat→Prop} {l:List Nat} {ρ:Rho} {c:aF} {v:Value} (h:CR0 w L ρ c v):
  ∀ {ρ':Rho},((∀b,L' b→L b)∨c.vfree=true)→CZ l ρ ρ'→CR0 w L' ρ' (c.back l) v:=by
 induction h with
 |any v h=>exact fun _ _=> .any v h
 |int k n=>exact fun _ _=> .int k n
 |bool b=>exact fun _ _=> .bool b
 |str s=>exact fun _ _=> .str s
 |nilp=>exact fun _ _=> .nilp
 |nils=>exact fun _ _=> .nils
 |nilf=>exact fun _ _=> .nilf
 |ptrDead id i es j v hd h=>exact fun _ hb=> .ptrDead _ i es j v (by rw[hb id (by rw[hd];simp),hd]) h
 |ptr id i es j b hb=>exact fun _ h=> .ptr _ i es j b (by rw[h id (by rw[hb];simp),hb])
 |slDead id o len es cap v hd h=>exact fun _ hb=> .slDead _ o len es cap v (by rw[hb id (by rw[hd];simp),hd]) h
 |sl id o len es cap b c ty n hb hs hn hl hc=>exact fun _ h=> .sl _ o len es cap b c ty n (by rw[h id (by rw[hb];simp),hb]) hs hn hl hc
 |slNone id o es cap a h1 hc=>exact fun _ h=> .slNone _ o es cap a (by rw[h id h1];exact h1) hc
 |vptr c i es j b base u hl hc hu ih=>
  intro ρ' hL _
  rcases hL with hL|hL
  ·have mb:eD w _ w L':=⟨fun _ _ _=>rfl,fun _ _=>rfl,Nat.le_refl _,fun b hb=> .inl (hL b hb)⟩
   exact .vptr c i es j b base u (fun h0 hb=>hl h0 (hL b hb)) hc (fun q hq=>(hu q hq).mono mb (.refl _))
  ·simp[aF.vfree]at hL
 |view nl c len es cap b base k u hl hc hu hz hk hcap hnl ih=>
  intro ρ' hL _
  rcases hL with hL|hL
  ·have mb:eD w _ w L':=⟨fun _ _ _=>rfl,fun _ _=>rfl,Nat.le_refl _,fun b hb=> .inl (hL b hb)⟩
   exact .view nl c len es cap b base k u (fun h0 hb=>hl h0 (hL b hb)) hc (fun q hq=>(hu q hq).mono mb (.refl _)) hz hk hcap hnl
  ·simp[aF.vfree]at hL
 |viewNone nl c es cap a k hz hcap hnl hk=>exact fun _ _=> .viewNone nl c es cap a k hz hcap hnl hk
 |fn f caps vs hs h ih=>
  intro ρ' hL hr
  simp only[aF.back]
  refine .fn f _ vs (by rw[d9];exact hs) fun i hi=> ?_
  rw[d9]at hi
  rw[iW]
  refine ih i hi (hL.imp id fun h=> ?_) hr
  simp only[aF.vfree]at h
  exact hZ h i
theorem AVR.back {X Y:Nat→Prop} {w:World} {ρ ρ':Rho} {l:List Nat} (hr:CZ l ρ ρ') {x:AV} {v:Value} (h:AVR X w ρ x v):
  ((∀b,(bH ρ' b∨Y b)→(bH ρ b∨X b))∨x.vfree=true)→AVR Y w ρ' (x.back l) v:=by
 induction h with
 |any v=>exact fun _=> .any v
 |c x v h=>exact fun hL=> .c _ _ (CR0.back h (hL.imp id fun h=>by simpa [AV.vfree]using h) hr)
 |agg cs vs hs h=>
  intro hL
  simp only[AV.back]
  refine .agg _ _ (by rw[d9];exact hs) fun i hi=> ?_
  rw[d9]at hi;rw[iW]
  exact CR0.back (h i hi) (hL.imp id fun h=>hZ (by simpa [AV.vfree]using h) i) hr
 |tup cs vs hs h ih=>
  intro hL
  simp only[AV.back]
  refine .tup _ _ (by rw[iX];exact hs) fun i hi=> ?_
  rw[iX]at hi;rw[sB]
  exact ih i hi (hL.imp id fun h=>qN (by simpa [AV.vfree]using h) i)
theorem dT.back {X Y:Nat→Prop} {w:World} {ρ ρ':Rho} {l:List Nat} (hr:CZ l ρ ρ') {s:aW} {x:Wh} (hp:s.plain=true) (h:dT X w ρ s x)
  (hL:(∀b,(bH ρ' b∨Y b)→(bH ρ b∨X b))∨s.vfree=true):dT Y w ρ' (s.back l) x:=by
 cases s with
 |unborn=>cases x<;>exact h
 |dead=>cases x<;>exact h
 |live c=>
  have flat:(∀q,((c.cell q).back l)=c.cell q)→((∀b,(bH ρ' b∨Y b)→(bH ρ b∨X b))∨ ∀q,(c.cell q).vfree=true)→dT Y w ρ' (.live c) x:=by
   intro hb hv
   cases x with
   |unborn=>exact h
   |dead=>exact h
   |nil=>exact h
   |row b=>
    obtain⟨cs,ty,e,h1,h2⟩:=h
    refine⟨cs,ty,e,h1,fun q hq=> ?_⟩
    have:=CR0.back (l:=l) (L':=fun b=>bH ρ' b∨Y b) (h2 q hq) (hv.imp id fun h=>h q) hr
    rwa[hb q]at this
  cases c with
  |recs=>simp[aW.plain]at hp
  |ints k xs=>exact flat (fun q=>by simp[Con.cell,aF.back]) (.inr fun q=>by simp[Con.cell,aF.vfree])
  |bools xs=>exact flat (fun q=>by simp[Con.cell,aF.back]) (.inr fun q=>by simp[Con.cell,aF.vfree])
  |ivs k xss=>exact flat (fun q=>by simp[Con.cell,aF.back]) (hL.imp id fun h=>by simp[aW.vfree]at h)
  |cells cs=>
   simp only[aW.back]
   cases x with
   |unborn=>exact h
   |dead=>exact h
   |nil=>simp only[dT,Con.size,d9]at h⊢;exact h
   |row b=>
    obtain⟨vs,ty,e,h1,h2⟩:=h
    refine⟨vs,ty,e,by simpa [Con.size,d9]using h1,fun q hq=> ?_⟩
    simp only[Con.size,d9]at hq
    simp only[Con.cell]
    rw[iW]
    exact CR0.back (h2 q hq) (hL.imp id fun h=>hZ (by simpa [aW.vfree]using h) q) hr
def vwC (get:Get):aF→Option (aF×List Bool)
 |.sl id 0 len es cap=>match get id with
  |.live c=>bif c.free then some (.view none c len es cap,[decide (ix len es 0=c.size)])else none
  |_=>none
 |.sl id o len es cap=>match get id with
  |.live c=>bif c.free then(c.sub es (some o) none).map fun c'=>(.view none c' len es cap,[decide (ix (o+len) es 0=c.size)])else none
  |_=>none
 |.ptr id i es j=>match get id with
  |.live c=>bif c.free then some (.vptr c i es j,[])else none
  |_=>none
 |_=>none
def cvC (get:Get) (roots:List Nat) (x:aF):Option (aF×List Bool×Bool):=
 bif x.ids.all roots.elem then some (x.ren roots,[],false)else(vwC get x).map fun(y,o)=>(y,o,true)
def cvL (get:Get) (roots:List Nat):List aF→Option (List aF×List Bool×Bool)
 |[]=>some ([],[],false)
 |x::r=>match cvC get roots x,cvL get roots r with
  |some (y,o,b),some (ys,o',b')=>some (y::ys,o++o',b||b')
  |_,_=>none
def cvA (get:Get) (roots:List Nat):AV→Option (AV×List Bool×Bool)
 |.any=>some (.any,[],false)
 |.c x=>(cvC get roots x).map fun(y,o,b)=>(.c y,o,b)
 |.agg cs=>(cvL get roots cs).map fun(y,o,b)=>(.agg y,o,b)
 |.tup _=>none
def DJ (get:Get) (roots:List Nat):List AV→Option (List AV×List Bool×Bool)
 |[]=>some ([],[],false)
 |x::r=>match cvA get roots x,DJ get roots r with
  |some (y,o,b),some (ys,o',b')=>some (y::ys,o++o',b||b')
  |_,_=>none
def FK (l:List Nat):List Nat→List aW→List (Nat×aW)
 |x::t,s::r=>(x,s.back l)::FK l t r
 |_,_=>[]
abbrev aN:=List AV→List aW→Option (AV×List aW×List Bool)
def CE (get:Get) (id:Nat):Bool:=hJ get id&&(get id).plain
def H9 (F:aN) (roots:List Nat) (args:List AV) (get:Get) (base:Nat):Option Eff:=
 bif cP roots&&roots.all (CE get)then
  match DJ get roots args with
  |none=>none
  |some (cargs,o,vd)=>
   match F cargs (roots.map fun id=>(get id).ren roots)with
   |none=>none
   |some (res,h1,o')=>
    bif Nat.ble roots.length h1.length&&Nat.ble h1.length (roots.length+8)&&(!vd||(res.vfree&&h1.all aW.vfree))&&h1.all aW.plain then
     some {val:=res.back (roots++cL 8 base),sets:=FK (roots++cL 8 base) (roots++cL 8 base) h1,obl:=o++o'}
    else none
 else none
def aP (P:Program) (f:FuncId) (F:aN):Prop:= ∀args h res h' o,F args h=some (res,h',o)→(∀b∈o,b=true)→bA P f args h res h'
end
section
theorem idx?_none: ∀ {l:List Nat} {id:Nat},idx? l id=none→id∉l
 |[],id,_=>by simp
 |x::r,id,h=>by
  simp only[idx?]at h
  split at h
  ·cases h
  ·rename_i e
   simp only[Option.map_eq_none_iff]at h
   intro hm
   rcases List.mem_cons.1 hm with hm|hm
   ·exact e hm.symm
   ·exact idx?_none h hm
theorem idx?_some {l:List Nat} {id k:Nat} (hn:cP l=true) (h:l[k]? =some id):idx? l id=some k:=by
 cases hi:idx? l id with
 |none=>exact absurd (List.mem_of_getElem? h) (idx?_none hi)
 |some j=>rw[l3 hn (idx?_spec hi) h]
theorem tB: ∀(n k i:Nat),(cL n k)[i]? =if i<n then some (k+i)else none
 |0,k,i=>by simp[cL]
 |n+1,k,0=>by simp[cL]
 |n+1,k,i+1=>by
  simp only[cL,List.getElem?_cons_succ,tB n (k+1) i,Nat.add_lt_add_iff_right]
  split
  ·congr 1;omega
  ·rfl
theorem tC: ∀(n k:Nat),(cL n k).length=n
 |0,_=>rfl
 |n+1,k=>by simp[cL,tC n]
theorem J2 {l:List Nat} (h: ∀(i j x:Nat),l[i]? =some x→l[j]? =some x→i=j):cP l=true:=by
 induction l with
 |nil=>rfl
 |cons y r ih=>
  simp only[cP,Bool.and_eq_true,rpS,Bool.not_eq_true']
  refine⟨?_,ih fun i j x hi hj=> ?_⟩
  ·cases hc:r.elem y with
   |false=>rfl
   |true=>
    have:y∈r:=by simpa using hc
    obtain⟨i,hi⟩:=List.getElem?_of_mem this
    have:=h 0 (i+1) y (by simp) (by simpa using hi)
    omega
  ·have:=h (i+1) (j+1) x (by simpa using hi) (by simpa using hj)
   omega
theorem A3 (l:List Nat): ∀(t:List Nat) (hs:List aW) (h:List aW) (id:Nat),cP t=true→(∀x∈t,x<h.length)→
  Heap.get (cV h (FK l t hs)) id=match idx? t id with
   |some k=>if k<hs.length then(Heap.get hs k).back l else Heap.get h id
   |none=>Heap.get h id
 |[],hs,h,id,_,_=>by simp[FK,cV,idx?]
 |x::t,[],h,id,_,_=>by
  simp only[FK,cV]
  split<;>simp
 |x::t,s::r,h,id,hn,hl=>by
  have hx:=hl x List.mem_cons_self
  simp only[cP,Bool.and_eq_true,rpS,Bool.not_eq_true']at hn
  have hxt:x∉t:=fun hm=>by rw[List.elem_eq_true_of_mem hm]at hn;cases hn.1
  simp only[FK,cV]
  rw[A3 l t r (h.set x (s.back l)) id hn.2 (fun y hy=>by simpa using hl y (List.mem_cons_of_mem _ hy)),Heap.get_set]
  simp only[idx?]
  by_cases e:x=id
  ·subst e
   have:idx? t x=none:=by
    cases hi:idx? t x with
    |none=>rfl
    |some k=>exact absurd (List.mem_of_getElem? (idx?_spec hi)) hxt
   rw[this]
   simp[hx,Heap.get]
  ·rw[if_neg e]
   have e': ¬id=x:=fun h=>e h.symm
   cases hi:idx? t id with
   |none=>simp[e']
   |some k=>
    simp only[Option.map_some,List.length_cons,Nat.add_lt_add_iff_right]
    split
    ·simp[Heap.get]
    ·simp[e']
theorem v6 {X Y:Nat→Prop} {w0 w:World} {M:Nat→Prop} {h:List aW} {ρ ρ0:Rho} (m:Mem X w0 M h ρ w) {get:Get} (hg: ∀id c,get id=.live c→Heap.get h id=.live c) {roots:List Nat}
  (hr:kO roots ρ ρ0) (hb: ∀k b,ρ0 k=.row b→ ∃id,roots[k]? =some id∧ρ id=.row b) {x y:aF} {o:List Bool} {vd:Bool} {v:Value} (hc:cvC get roots x=some (y,o,vd)) (ho: ∀b∈o,b=true)
  (hL: ∀b,(bH ρ0 b∨Y b)→(bH ρ b∨X b)) (hv:vd=true→ ∀b, ¬Y b) (hx:CR X w ρ x v):CR Y w ρ0 y v:=by
 unfold cvC at hc
 cases ha:x.ids.all roots.elem with
 |true=>
  rw[ha]at hc
  injection hc with hc;injection hc with h1 h2;subst h1
  exact CR0.ren hL hx hr
 |false=>
  rw[ha]at hc
  obtain⟨⟨y',o'⟩,h1,h2⟩:=Option.map_eq_some_iff.1 hc
  injection h2 with h2 h3;injection h3 with h3 h4;subst h2 h3 h4
  have hY:=hv rfl
  have notL: ∀ {id b},roots.elem id=false→ρ id=.row b→ ¬(bH ρ0 b∨Y b):=by
   rintro id b hid hrow (⟨k,hk⟩|hyb)
   ·obtain⟨j,j1,j2⟩:=hb k b hk
    have:=m.inj id j b hrow j2
    subst this
    rw[List.elem_eq_true_of_mem (List.mem_of_getElem? j1)]at hid;cases hid
   ·exact hY b hyb
  have mb:eD w (fun b=>bH ρ b∨X b) w (fun b=>bH ρ0 b∨Y b):=⟨fun _ _ _=>rfl,fun _ _=>rfl,Nat.le_refl _,fun b hb=> .inl (hL b hb)⟩
  unfold vwC at h1
  split at h1
  ·rename_i id len es cap
   have hid:roots.elem id=false:=by simpa [aF.ids]using ha
   split at h1
   ·rename_i c hs
    cases hfr:c.free with
    |false=>rw[hfr]at h1;cases h1
    |true=>
    rw[hfr]at h1
    injection h1 with h1;injection h1 with e1 e2;subst e1 e2
    have hz:len*es=c.size:=by simpa [dE]using ho _ (List.mem_singleton.2 rfl)
    rcases cW m (hg _ _ hs) hx with⟨b,k,ty,n,hb',rfl,⟨cs,ty',hrow,hsz,hcs⟩,hsh,hn,hl,hcap⟩|⟨a,rfl,rfl,hcap⟩
    ·rw[Nat.zero_mul]
     refine .view none c len es cap b 0 k (fun q=>cs.getD q undef) (fun _=>notL hid hb') (fun q hq=> ?_) (fun q hq=>((hcs q hq).free (eM hfr q)).mono mb (cB.noIds _)) hz hl hcap (fun _ h=>by cases h)
     have hq':q<cs.size:=by omega
     simp[World.cell?,hrow,Array.getD,hq']
    ·exact .viewNone none c es cap a 0 (by omega) hcap (fun _ h=>by cases h) (fun _=>rfl)
   ·cases h1
  ·rename_i id o len es cap hne
   have hid:roots.elem id=false:=by simpa [aF.ids]using ha
   split at h1
   ·rename_i c hs
    cases hfr:c.free with
    |false=>rw[hfr]at h1;cases h1
    |true=>
    rw[hfr]at h1
    obtain⟨c',g1,g2⟩:=Option.map_eq_some_iff.1 h1
    injection g2 with e1 e2;subst e1 e2
    have hz:(o+len)*es=c.size:=by simpa [dE]using ho _ (List.mem_singleton.2 rfl)
    obtain⟨s1,s2⟩:=pL (len:=o+len) g1 hz (by simp) (by simp)
    simp only[Option.getD_none,Option.getD_some]at s1 s2
    have s1':c'.size=len*es:=by rw[s1];congr 1;omega
    rcases cW m (hg _ _ hs) hx with⟨b,k,ty,n,hb',rfl,⟨cs,ty',hrow,hsz,hcs⟩,hsh,hn,hl,hcap⟩|⟨a,rfl,rfl,hcap⟩
    ·have hin: ∀q,q<c'.size→o*es+q<c.size:=fun q hq=>by
      rw[s1']at hq;rw[←hz,Nat.add_mul];omega
     refine .view none c' len es cap b (o*es) k (fun q=>cs.getD (o*es+q) undef) (fun _=>notL hid hb') (fun q hq=> ?_) (fun q hq=> ?_) s1'.symm hl hcap (fun _ h=>by cases h)
     ·have hq':o*es+q<cs.size:=by have:=hin q hq;omega
      simp[World.cell?,hrow,Array.getD,hq']
     ·rw[s2 q hq]
      exact((hcs _ (hin q hq)).free (eM hfr _)).mono mb (cB.noIds _)
    ·exact .viewNone none c' es cap a 0 (by rw[s1',Nat.zero_mul]) hcap (fun _ h=>by cases h) (fun _=>rfl)
   ·cases h1
  ·rename_i id i es j
   have hid:roots.elem id=false:=by simpa [aF.ids]using ha
   split at h1
   ·rename_i c hs
    cases hfr:c.free with
    |false=>rw[hfr]at h1;cases h1
    |true=>
    rw[hfr]at h1
    injection h1 with h1;injection h1 with e1 e2;subst e1 e2
    obtain⟨b,hb',rfl,cs,ty,hrow,hsz,hcs⟩:=gU m (hg _ _ hs) hx
    have:=CR0.vptr (w:=w) (L:=fun b=>bH ρ0 b∨Y b) (ρ:=ρ0) c i es j b 0 (fun q=>cs.getD q undef) (fun _=>notL hid hb') (fun q hq=>by
      have hq':q<cs.size:=by omega
      simp[World.cell?,hrow,Array.getD,hq']) (fun q hq=>((hcs q hq).free (eM hfr q)).mono mb (cB.noIds _))
    simpa using this
   ·cases h1
  ·cases h1
end
section
section
variable {X Y : Nat → Prop} {w0 w : World} {M : Nat → Prop} {h : List aW} {ρ ρ0 : Rho} (m : Mem X w0 M h ρ w) {get : Get} (hg : ∀ id c, get id = .live c → Heap.get h id = .live c) {roots : List Nat}
 (hr:kO roots ρ ρ0) (hb: ∀(k b:Nat),ρ0 k=.row b→ ∃id:Nat,roots[k]? =some id∧ρ id=.row b) (hL: ∀b,(bH ρ0 b∨Y b)→(bH ρ b∨X b))
include m hg hr hb hL
theorem v7: ∀ {l l':List aF} {o:List Bool} {vd:Bool} (f:Nat→Value),cvL get roots l=some (l',o,vd)→(∀b∈o,b=true)→(vd=true→ ∀b, ¬Y b)→
  (∀q,q<l.length→CR X w ρ (l.getD q .any) (f q))→l'.length=l.length∧ ∀q,q<l.length→CR Y w ρ0 (l'.getD q .any) (f q)
 |[],l',o,vd,f,hc,_,_,_=>by
  injection hc with hc;injection hc with h1 h2;subst h1
  exact⟨rfl,fun q hq=>by simp at hq⟩
 |x::r,l',o,vd,f,hc,ho,hv,hx=>by
  simp only[cvL]at hc
  split at hc
  ·rename_i y o1 b ys o2 b' e1 e2
   injection hc with hc;injection hc with h1 h2;injection h2 with h2 h3;subst h1 h2 h3
   obtain⟨g1,g2⟩:=v7 (fun q=>f (q+1)) e2 (fun b hb=>ho b (List.mem_append_right _ hb)) (fun h=>hv (by simp[h])) (fun q hq=>by simpa using hx (q+1) (by simpa using hq))
   refine⟨by simp[g1],fun q hq=> ?_⟩
   cases q with
   |zero=>simpa using v6 m hg hr hb e1 (fun b hb=>ho b (List.mem_append_left _ hb)) hL (fun h=>hv (by simp[h])) (by simpa using hx 0 (by simp))
   |succ q=>simpa using g2 q (by simpa using hq)
  ·cases hc
theorem EI {x y:AV} {o:List Bool} {vd:Bool} {v:Value} (hc:cvA get roots x=some (y,o,vd)) (ho: ∀b∈o,b=true) (hv:vd=true→ ∀b, ¬Y b) (hx:AVR X w ρ x v):AVR Y w ρ0 y v:=by
 cases hx with
 |any v=>injection hc with hc;injection hc with h1 h2;subst h1;exact .any v
 |c x v hx=>
  obtain⟨⟨y',o',b⟩,h1,h2⟩:=Option.map_eq_some_iff.1 hc
  injection h2 with h2 h3;injection h3 with h3 h4;subst h2 h3 h4
  exact .c _ _ (v6 m hg hr hb h1 ho hL hv hx)
 |agg cs vs hs hx=>
  obtain⟨⟨y',o',b⟩,h1,h2⟩:=Option.map_eq_some_iff.1 hc
  injection h2 with h2 h3;injection h3 with h3 h4;subst h2 h3 h4
  obtain⟨g1,g2⟩:=v7 m hg hr hb hL (fun q=>vs.getD q undef) h1 ho hv hx
  exact .agg _ _ (by rw[g1,hs]) fun i hi=>g2 i (by rw[←g1];exact hi)
 |tup l vs hs hx=>cases hc
theorem pY: ∀ {l l':List AV} {o:List Bool} {vd:Bool} (f:Nat→Value),DJ get roots l=some (l',o,vd)→(∀b∈o,b=true)→(vd=true→ ∀b, ¬Y b)→
  (∀q,q<l.length→AVR X w ρ (l.getD q .any) (f q))→l'.length=l.length∧ ∀q,q<l.length→AVR Y w ρ0 (l'.getD q .any) (f q)
 |[],l',o,vd,f,hc,_,_,_=>by
  injection hc with hc;injection hc with h1 h2;subst h1
  exact⟨rfl,fun q hq=>by simp at hq⟩
 |x::r,l',o,vd,f,hc,ho,hv,hx=>by
  simp only[DJ]at hc
  split at hc
  ·rename_i y o1 b ys o2 b' e1 e2
   injection hc with hc;injection hc with h1 h2;injection h2 with h2 h3;subst h1 h2 h3
   obtain⟨g1,g2⟩:=pY (fun q=>f (q+1)) e2 (fun b hb=>ho b (List.mem_append_right _ hb)) (fun h=>hv (by simp[h])) (fun q hq=>by simpa using hx (q+1) (by simpa using hq))
   refine⟨by simp[g1],fun q hq=> ?_⟩
   cases q with
   |zero=>simpa using EI m hg hr hb hL e1 (fun b hb=>ho b (List.mem_append_left _ hb)) (fun h=>hv (by simp[h])) (by simpa using hx 0 (by simp))
   |succ q=>simpa using g2 q (by simpa using hq)
  ·cases hc
end
theorem D7 {p:aW→Bool} (hp:p .unborn=true) {h:List aW} (ha:h.all p=true) (k:Nat):p (Heap.get h k)=true:=by
 rcases Nat.lt_or_ge k h.length with hk|hk
 ·have:Heap.get h k=h[k]:=by simp[Heap.get,hk]
  rw[this];exact List.all_eq_true.1 ha _ (List.getElem_mem hk)
 ·rw[Heap.get_ge hk];exact hp
theorem yR {P:Program} {f:FuncId} {F:aN} (hF:aP P f F)
  {roots:List Nat} {args:List AV} {get:Get} {base:Nat} {e:Eff} (he:H9 F roots args get base=some e) (ho: ∀b∈e.obl,b=true):uT P f args get base e:=by
 unfold H9 at he
 cases hc:cP roots&&roots.all (CE get)with
 |false=>rw[hc]at he;cases he
 |true=>
 rw[hc]at he
 simp only[cond_true]at he
 simp only[Bool.and_eq_true,rpS,List.all_eq_true]at hc
 obtain⟨hnd,hok⟩:=hc
 split at he
 ·cases he
 rename_i cargs o vd hcv
 split at he
 ·cases he
 rename_i res h1 o' hmod
 cases hc:Nat.ble roots.length h1.length&&Nat.ble h1.length (roots.length+8)&&(!vd||(res.vfree&&h1.all aW.vfree))&&h1.all aW.plain with
 |false=>rw[hc]at he;cases he
 |true=>
 rw[hc]at he
 simp only[cond_true,Option.some.injEq]at he
 subst he
 simp only[Bool.and_eq_true,rpS,Nat.ble_eq]at hc
 obtain⟨⟨⟨hml,hmh⟩,hvf⟩,hplain⟩:=hc
 refine⟨(hF _ _ _ _ _ hmod (fun b hb=>ho b (List.mem_append_right _ hb))).1, ?_⟩
 intro X w0 w M h ρ mm hg hbase vs hvl hva
 dsimp only at ho
 have hlive: ∀(k id:Nat),roots[k]? =some id→ ∃c,get id=.live c∧Heap.get h id=.live c∧ ∀e n g,c≠ .recs e n g:=by
  intro k id hk
  have:=hok id (List.mem_of_getElem? hk)
  simp only[CE,Bool.and_eq_true,rpS,hJ]at this
  cases hgi:get id with
  |live c=>rw[hgi]at this;exact⟨c,rfl,hg _ _ hgi,fun e n g hc=>by subst hc;simp[aW.plain]at this⟩
  |unborn=>rw[hgi]at this;simp at this
  |dead=>rw[hgi]at this;simp at this
 have hρ0: ∀(k id:Nat),roots[k]? =some id→bV h roots ρ k=ρ id:=by
  intro k id hk
  obtain⟨c,_,h2,h3⟩:=hlive k id hk
  unfold bV;rw[hk];dsimp only;rw[h2]
  cases c with
  |recs e n g=>exact absurd rfl (h3 e n g)
  |_=>rfl
 have hρ0n: ∀(k:Nat),roots[k]? =none→bV h roots ρ k=.unborn:=by
  intro k hk;unfold bV;rw[hk]
 generalize hr0:bV h roots ρ=ρ0 at*
 have hren:kO roots ρ ρ0:=by rw[←hr0];exact dJ _ _ _
 have hrow: ∀(k b:Nat),ρ0 k=.row b→ ∃id:Nat,roots[k]? =some id∧ρ id=.row b:=fun k b hk=>by rw[←hr0]at hk;exact hB hk
 have hlv0: ∀b,bH ρ0 b→bH ρ b:=fun b ⟨k,hk⟩=>by obtain⟨id,_,h2⟩:=hrow k b hk;exact⟨id,h2⟩
 let Y:Nat→Prop:=fun b=>vd=false∧(bH ρ b∨X b)∧ ¬bH ρ0 b
 have hL: ∀b,(bH ρ0 b∨Y b)→(bH ρ b∨X b):=fun b hb=>hb.elim (fun h'=> .inl (hlv0 b h')) (fun h'=>h'.2.1)
 have hmap:(roots.map fun id=>(get id).ren roots)=roots.map fun id=>(Heap.get h id).ren roots:=by
  apply List.map_congr_left
  intro id hid
  obtain⟨k,hk⟩:=List.getElem?_of_mem hid
  obtain⟨c,c1,c2,_⟩:=hlive k id hk
  rw[c1,c2]
 rw[hmap]at hmod
 have m0:Mem Y w (bH ρ0) (roots.map fun id=>(Heap.get h id).ren roots) ρ0 w:=by
  refine⟨fun k=> ?_,fun i j b hi hj=> ?_,fun k b hk=> .inr ⟨k,hk⟩,rfl,rfl,rfl,Nat.le_refl _,fun _ _ _=>rfl,fun b hb=>⟨?_,hb.2.2⟩⟩
  ·have:=mm.slot_ren (l:=roots) (Y:=Y) (fun b hb=>hb.2.1) k
   rw[hr0]at this;exact this
  ·have:=(mm.ren hnd).inj
   rw[hr0]at this;exact this i j b hi hj
  ·rcases hb.2.1 with⟨id,h'⟩|h'
   ·exact mm.lt h'
   ·have:=(mm.foreign b h').1;have:=mm.size;omega
 obtain⟨hcl,hca⟩:=pY mm hg hren hrow hL (fun q=>vs.getD q undef) hcv (fun b hb=>ho b (List.mem_append_left _ hb)) (fun hv b hb=>by rw[hb.1]at hv;cases hv) hva
 have hcall:=(hF _ _ _ _ _ hmod (fun b hb=>ho b (List.mem_append_right _ hb))).2 m0 vs (by rw[hcl,hvl]) (fun q hq=>hca q (by rw[←hcl];exact hq))
 refine Calls.mono hcall ?_
 rintro e' w' ⟨v,ρ1,rfl,mb,im,m1,hv⟩
 have hunb: ∀i,i<8→ρ (base+i)=.unborn:=by
  intro i hi
  have hs:=mm.slot (base+i);rw[(hbase i hi).1]at hs
  cases hx:ρ (base+i)<;>rw[hx]at hs<;>first|rfl|exact hs.elim
 have htl:(roots++cL 8 base).length=roots.length+8:=by simp[tC]
 have htg1: ∀(k id:Nat),roots[k]? =some id→(roots++cL 8 base)[k]? =some id:=by
  intro k id hk
  rw[List.getElem?_append_left (List.getElem?_eq_some_iff.1 hk).1];exact hk
 have htg: ∀(k id:Nat),(roots++cL 8 base)[k]? =some id→roots[k]? =some id∨(roots.length≤k∧ ∃i,i<8∧id=base+i∧k=roots.length+i):=by
  intro k id hk
  rw[List.getElem?_append]at hk
  split at hk
  ·exact .inl hk
  ·rename_i hge
   rw[tB]at hk
   split at hk
   ·rename_i hi
    injection hk with hk
    exact .inr ⟨by omega,_,hi,hk.symm,by omega⟩
   ·cases hk
 have hnt:cP (roots++cL 8 base)=true:=by
  refine J2 fun i j x hi hj=> ?_
  have no: ∀(k i':Nat),i'<8→roots[k]? =some (base+i')→False:=fun k i' hi' hk=>by
   obtain⟨c,_,c2,_⟩:=hlive k _ hk
   rw[(hbase i' hi').1]at c2;cases c2
  rcases htg i x hi with hi'|⟨_,i',i1,i2,i3⟩<;>rcases htg j x hj with hj'|⟨_,j',j1,j2,j3⟩
  ·exact l3 hnd hi' hj'
  ·subst j2;exact(no i j' j1 hi').elim
  ·subst i2;exact(no j i' i1 hj').elim
  ·omega
 generalize htdef:roots++cL 8 base=T at*
 have hidx: ∀(k id:Nat),T[k]? =some id↔idx? T id=some k:=fun k id=>⟨fun h=>idx?_some hnt h,idx?_spec⟩
 let ρ':Rho:=fun id=>match idx? T id with
  |some k=>ρ1 k
  |none=>ρ id
 have hin: ∀(k id:Nat),T[k]? =some id→ρ' id=ρ1 k:=fun k id hk=>by
  show(match idx? T id with|some k=>ρ1 k|none=>ρ id)=ρ1 k
  rw[(hidx k id).1 hk]
 have hout: ∀id,idx? T id=none→ρ' id=ρ id:=fun id hk=>by
  show(match idx? T id with|some k=>ρ1 k|none=>ρ id)=ρ id
  rw[hk]
 have hk1: ∀k,ρ1 k≠ .unborn→k<h1.length:=by
  intro k hk
  rcases Nat.lt_or_ge k h1.length with h'|h'
  ·exact h'
  ·have hs:=m1.slot k;rw[Heap.get_ge h']at hs
   cases hx:ρ1 k<;>rw[hx]at hs<;>first|exact absurd hx hk|exact hs.elim
 have hbacks:CZ T ρ1 ρ':=by
  intro k hk
  have hlt:=hk1 k hk
  have hkT:k<T.length:=by omega
  have:T[k]? =some (T.getD k 0):=by simp[List.getD_eq_getElem?_getD,List.getElem?_eq_getElem hkT]
  exact hin k _ this
 have hnot0: ∀id b,idx? T id=none→ρ id=.row b→ ¬bH ρ0 b:=by
  rintro id b hid hb ⟨k,hk⟩
  obtain⟨j,j1,j2⟩:=hrow k b hk
  have:=mm.inj id j b hb j2
  subst this
  rw[(hidx k id).1 (htg1 k id j1)]at hid;cases hid
 have hown1: ∀k b,ρ1 k=.row b→w.heap.size≤b∨bH ρ b:=fun k b hk=>(m1.own k b hk).imp id (hlv0 b)
 have hmono:bN w ρ w' ρ':=by
  refine⟨fun b hb hl=>m1.keep b hb (fun h'=>hl (hlv0 b h')),mb.shape,mb.size,fun id hd=> ?_,fun id hd=> ?_,fun id b hd=> ?_,fun id b hd=> ?_⟩
  ·cases hi:idx? T id with
   |none=>rw[hout id hi];exact hd
   |some k=>
    have hk:=idx?_spec hi
    rw[hin k id hk]
    rcases htg k id hk with h'|⟨_,i,i1,i2,_⟩
    ·exact im.dead k (by rw[hρ0 k id h'];exact hd)
    ·subst i2;rw[hunb i i1]at hd;cases hd
  ·cases hi:idx? T id with
   |none=>rw[hout id hi];exact .inl hd
   |some k=>
    have hk:=idx?_spec hi
    rw[hin k id hk]
    rcases htg k id hk with h'|⟨_,i,i1,i2,_⟩
    ·exact im.nil k (by rw[hρ0 k id h'];exact hd)
    ·subst i2;rw[hunb i i1]at hd;cases hd
  ·cases hi:idx? T id with
   |none=>rw[hout id hi];exact .inl hd
   |some k=>
    have hk:=idx?_spec hi
    rw[hin k id hk]
    rcases htg k id hk with h'|⟨_,i,i1,i2,_⟩
    ·exact im.at_ k b (by rw[hρ0 k id h'];exact hd)
    ·subst i2;rw[hunb i i1]at hd;cases hd
  ·cases hi:idx? T id with
   |none=>rw[hout id hi]at hd;exact .inl ⟨id,hd⟩
   |some k=>
    rw[hin k id (idx?_spec hi)]at hd
    exact(hown1 k b hd).symm
 have hLb:(∀b,(bH ρ' b∨X b)→(bH ρ1 b∨Y b))∨(res.vfree=true∧h1.all aW.vfree=true):=by
  cases hvd:vd with
  |true=>
   rw[hvd]at hvf
   simp only[Bool.not_true,Bool.false_or,Bool.and_eq_true,rpS]at hvf
   exact .inr hvf
  |false=>
   refine .inl fun b hb=> ?_
   rcases hb with⟨id,hid⟩|hx
   ·cases hi:idx? T id with
    |some k=>rw[hin k id (idx?_spec hi)]at hid;exact .inl ⟨k,hid⟩
    |none=>
     rw[hout id hi]at hid
     exact .inr ⟨hvd,.inl ⟨id,hid⟩,hnot0 id b hi hid⟩
   ·refine .inr ⟨hvd,.inr hx,fun⟨k,hk⟩=> ?_⟩
    obtain⟨j,_,j2⟩:=hrow k b hk
    exact mm.notX j2 hx
 refine⟨v,ρ',rfl,hmono,⟨fun id=> ?_,fun i j b hi hj=> ?_,fun id b hd=> ?_,by rw[m1.os,mm.os],by rw[m1.tape,mm.tape],by rw[m1.output,mm.output],Nat.le_trans mm.size m1.size,
  fun k hk hM=> ?_,mm.foreign⟩,AVR.back hbacks hv (hLb.imp id And.left)⟩
 ·have hltT: ∀x∈T,x<h.length:=by
   intro x hx
   obtain⟨k,hk⟩:=List.getElem?_of_mem hx
   rcases htg k x hk with h'|⟨_,i,i1,i2,_⟩
   ·obtain⟨c,_,c2,_⟩:=hlive k x h'
    exact Heap.lt_of_live (by rw[c2];simp)
   ·subst i2;exact(hbase i i1).2
  rw[A3 T T h1 h id hnt hltT]
  cases hi:idx? T id with
  |none=>
   rw[hout id hi]
   exact(mm.slot id).mono hmono fun b hb=>m1.keep b (mm.lt hb) (hnot0 id b hi hb)
  |some k=>
   have hk:=idx?_spec hi
   rw[hin k id hk]
   have hback:=dT.back hbacks (Y:=X) (D7 rfl hplain k) (m1.slot k) (hLb.imp (fun x=>x) fun h'=>D7 rfl h'.2 k)
   dsimp only
   split
   ·exact hback
   ·rename_i hge
    have hge:h1.length≤k:=by omega
    rw[Heap.get_ge hge]at hback
    have:Heap.get h id=.unborn:=by
     rcases htg k id hk with h'|⟨_,i,i1,i2,_⟩
     ·have:=(List.getElem?_eq_some_iff.1 h').1;omega
     ·subst i2;exact(hbase i i1).1
    rw[this];exact hback
 ·cases hi1:idx? T i with
  |some k=>
   rw[hin k i (idx?_spec hi1)]at hi
   cases hj1:idx? T j with
   |some k'=>
    rw[hin k' j (idx?_spec hj1)]at hj
    have:=m1.inj k k' b hi hj
    subst this
    have a1:=idx?_spec hi1;have a2:=idx?_spec hj1
    rw[a1]at a2;injection a2
   |none=>
    rw[hout j hj1]at hj
    rcases m1.own k b hi with h'|h'
    ·have:=mm.lt hj;omega
    ·exact absurd h' (hnot0 j b hj1 hj)
  |none=>
   rw[hout i hi1]at hi
   cases hj1:idx? T j with
   |some k'=>
    rw[hin k' j (idx?_spec hj1)]at hj
    rcases m1.own k' b hj with h'|h'
    ·have:=mm.lt hi;omega
    ·exact absurd h' (hnot0 i b hi1 hi)
   |none=>rw[hout j hj1]at hj;exact mm.inj i j b hi hj
 ·cases hi:idx? T id with
  |none=>rw[hout id hi]at hd;exact mm.own id b hd
  |some k=>
   rw[hin k id (idx?_spec hi)]at hd
   rcases hown1 k b hd with h'|⟨j,hj⟩
   ·have:=mm.size;exact .inl (by omega)
   ·exact mm.own j b hj
 ·rw[m1.keep k (by have:=mm.size;omega) (fun h'=> ?_),mm.keep k hk hM]
  obtain⟨j,hj⟩:=hlv0 k h'
  rcases mm.own j k hj with h''|h''
  ·omega
  ·exact hM h''
end
section
structure bD where
 f:Nat
 pos:List Nat
 F:aN
def NB (pos:List Nat) (args:List AV) (get:Get):List Nat:=
 let l:=jL [] (pos.flatMap fun p=>(args.getD p .any).ids)
 jL l (l.flatMap fun id=>rI (get id))
def a9:List bD→CT
 |[]=>fun _ _ _ _=>none
 |e::r=>fun f args get base=>if f=e.f then H9 e.F (NB e.pos args get) args get base else a9 r f args get base
def a6 (P:Program) (l:List bD):Prop:= ∀e∈l,aP P e.f e.F
theorem a6.nil (P:Program):a6 P []:=fun e h=>by cases h
theorem a6.cons {P:Program} {e:bD} {l:List bD} (h:aP P e.f e.F) (r:a6 P l):a6 P (e::l):=by
 intro x hx
 rcases List.mem_cons.1 hx with rfl|hx
 ·exact h
 ·exact r x hx
theorem a6.append {P:Program} {a b:List bD} (h:a6 P a) (r:a6 P b):a6 P (a++b):=by
 intro x hx
 rcases List.mem_append.1 hx with hx|hx
 ·exact h x hx
 ·exact r x hx
theorem aM {P:Program}: ∀ {l:List bD},a6 P l→bJ P (a9 l)
 |[],_=>fun f args get base e h=>by simp[a9]at h
 |x::l,hl=>fun f args get base e h ho=>by
  simp only[a9]at h
  split at h
  ·rename_i e;subst e
   exact yR (hl x List.mem_cons_self) h ho
  ·exact aM (fun y hy=>hl y (List.mem_cons_of_mem _ hy)) f args get base e h ho
def VW (P:Program) (f:FuncId):Prop:= ∃fn,P.funcs[f]? =some fn∧fn.body.isSome=true∧(fn.name== "runtime.NumGoroutine")=false
def aF.lenOk:aF→Prop
 |.view _ c len es _=>len*es=c.size
 |_=>True
def AV.lenOk:AV→Prop
 |.c x=>x.lenOk
 |.agg cs=> ∀x∈cs,x.lenOk
 |_=>True
theorem CR0.lenOk {w:World} {L:Nat→Prop} {ρ:Rho} {c:aF} {v:Value} (h:CR0 w L ρ c v):c.lenOk:=by
 cases h<;>first|trivial|assumption|skip
 rename_i hz _ _ _;simp[aF.lenOk,hz]
theorem AVR.lenOk {X:Nat→Prop} {w:World} {ρ:Rho} {x:AV} {v:Value} (h:AVR X w ρ x v):x.lenOk:=by
 cases h with
 |any=>trivial
 |c x v h=>exact CR0.lenOk h
 |agg cs vs hs h=>
  intro x hx
  obtain⟨i,hi⟩:=List.getElem?_of_mem hx
  have hlt:=(List.getElem?_eq_some_iff.1 hi).1
  have:=CR0.lenOk (h i hlt)
  rw[List.getD_eq_getElem?_getD,hi]at this
  exact this
 |tup=>trivial
theorem bA.len {P:Program} {f:FuncId} {args:List AV} {h:List aW} {res:AV} {h':List aW} (hex:VW P f) (hm:(∀x∈args,x.lenOk)→bA P f args h res h'):bA P f args h res h':=by
 refine⟨hex,fun {X w0 ρ0} m vs hl hv=> ?_⟩
 refine(hm fun x hx=> ?_).2 m vs hl hv
 obtain⟨i,hi⟩:=List.getElem?_of_mem hx
 have hlt:=(List.getElem?_eq_some_iff.1 hi).1
 have:=(hv i hlt).lenOk
 rw[List.getD_eq_getElem?_getD,hi]at this
 exact this
end
section
def LN (x:Nat):List Nat→List Nat
 |[]=>[x]
 |y::r=>bif Nat.blt x y then x::y::r else bif x==y then y::r else y::LN x r
def uni:List Nat→List Nat→List Nat
 |[],b=>b
 |x::r,b=>LN x (uni r b)
def del (x:Nat) (l:List Nat):List Nat:=l.filter fun y=> !(x==y)
def OU:Operand→List Nat
 |.tmp t=>[t]
 |_=>[]
def a0E (ops:Array Oper) (o:Oper):List Nat:=
 (cO o).flatMap OU++(match o.guard with
  |some (j,_)=>match(ops[j]?).bind (·.dst)with|some d=>[d]|none=>[]
  |none=>[])
def OO (ops:Array Oper):List Oper→List Nat→List Nat
 |[],out=>out
 |o::r,out=>
  let l:=OO ops r out
  let l:=match o.dst with
   |some d=>del d l
   |none=>l
  uni (a0E ops o) l
def exL (ex:List (Nat×List Nat)) (id:Nat):List Nat:=
 match ex with
 |[]=>[]
 |(k,l)::r=>bif k==id then l else exL r id
def lv:Code→List Nat→List (Nat×List Nat)→List Nat→List Nat
 |.ret,_,_,ret=>ret
 |.exit id,_,ex,_=>exL ex id
 |.region _ ops _,out,_,_=>OO ops ops.toList out
 |.seq a b,out,ex,ret=>lv a (lv b out ex ret) ex ret
 |.cond x a b,out,ex,ret=>uni (OU x) (uni (lv a out ex ret) (lv b out ex ret))
 |.block id c,out,ex,ret=>lv c out ((id,out)::ex) ret
 |.loop c,out,ex,ret=>lv c [] ex ret
 |_,out,_,_=>out
def sK:Code→List Nat
 |.exit id=>[id]
 |.seq a b=>sK a++sK b
 |.cond _ a b=>sK a++sK b
 |.block _ c=>sK c
 |.loop c=>sK c
 |_=>[]
def jB:Code→Bool
 |.ret=>true
 |.seq a b=>jB a||jB b
 |.cond _ a b=>jB a||jB b
 |.block _ c=>jB c
 |.loop c=>jB c
 |_=>false
def lvB (id:Nat):Code→List Nat→List (Nat×List Nat)→List Nat→Option (List Nat×List Nat)
 |.seq a b,out,ex,ret=>match lvB id a (lv b out ex ret) ex ret with
  |some r=>some r
  |none=>lvB id b out ex ret
 |.cond _ a b,out,ex,ret=>match lvB id a out ex ret with
  |some r=>some r
  |none=>lvB id b out ex ret
 |.block k c,out,ex,ret=>bif k==id then some (lv c out ((k,out)::ex) ret,uni out (uni (bif jB c then ret else []) ((sK c).foldl (fun l k=>uni (exL ex k) l) [])))else lvB id c out ((k,out)::ex) ret
 |.loop c,out,ex,ret=>lvB id c (lv c [] ex ret) ex ret
 |_,_,_,_=>none
def F8:List ResultVar→List Nat
 |[]=>[]
 |.tmp t::r=>LN t (F8 r)
 |.cell a _::r=>LN a (F8 r)
def a5 (fn:Func):Code:=match fn.body with|some c=>c|none=> .skip
def a8 (fn:Func) (id:Nat):List Nat:=match lvB id (a5 fn) (F8 fn.results.toList) [] (F8 fn.results.toList)with|some r=>r.1|none=>[]
def aA (fn:Func) (id:Nat):List Nat:=match lvB id (a5 fn) (F8 fn.results.toList) [] (F8 fn.results.toList)with|some r=>r.2|none=>[]
def JC:List (Nat×AV)→List AV→List AV
 |[],l=>l
 |(t,v)::r,l=>JC r (l.set t v)
def aY (n:Nat) (l:List (Nat×AV)) (heap:List aW):St:= {tmps:=JC l (List.replicate n .any),heap}
end
section
def nF:Ex→Bool
 |.normal=>true
 |_=>false
def aC (m:Nat) (live liveX:List Nat) (r:Option Out):Option (Ex×Bool×List Prop×St):=
 r.map fun o=>(o.ex,H1 o.obl,o.eqs,fit m (bif nF o.ex then live else liveX) o.st)
section
variable {P : Program} {tt : Tab} (hT : iV P tt) {ct : CT} (hct : bJ P ct) (bK : P.follows .mixedOrders = true)
include hT hct bK
theorem aS.roundsR {m id:Nat} {body:Code} {α:Type} (Inv:α→Prop) (I:α→St) (μ:α→Nat) (live liveX:List Nat) (ex:α→Ex) (post:α→St) (lc:α→List (Nat×LC))
  (hlc: ∀x,Inv x→aI P m (lc x) body)
  (h: ∀x,Inv x→ ∃n p e b q s,aC m live liveX (aG tt ct (lc x) m n body (I x) p)=some (e,b,q,s)∧b=true∧(∀x∈q,x)∧
   ((e=.normal∧ ∃y,Inv y∧μ y<μ x∧s=I y∧ex y=ex x∧post y=post x)∨(e=.exit id∧ex x=.normal∧s=post x)∨(e≠ .normal∧e≠ .exit id∧ex x=e∧s=post x))):
  ∀x,Inv x→aS P m (.block id (.loop body)) (I x) fun e t=>e=ex x∧t=post x:=by
 refine aS.rounds hT hct bK Inv I μ live liveX ex post lc hlc fun x hx=> ?_
 obtain⟨n,p,e,b,q,s,hr,hb,hq,hc⟩:=h x hx
 obtain⟨o,ho,h1⟩:=Option.map_eq_some_iff.1 hr
 simp only[Prod.mk.injEq]at h1
 obtain⟨rfl,rfl,rfl,rfl⟩:=h1
 refine⟨n,p,o,ho,kP hb,hq, ?_⟩
 rcases hc with⟨h1,y,hy,hm,hs,e1,e2⟩|⟨h1,h2,h3⟩|⟨h1,h2,h3,h4⟩
 ·rw[h1]at hs
  exact .inl ⟨h1,y,hy,hm,hs,e1,e2⟩
 ·rw[h1]at h3
  exact .inr (.inl ⟨h1,h2,h3⟩)
 ·refine .inr (.inr ⟨h1,h2,h3, ?_⟩)
  have:nF o.ex=false:=by cases hx:o.ex<;>first|rfl|exact absurd hx h1
  rw[this]at h4;exact h4
theorem aS.roundsN {m id:Nat} {body:Code} {α:Type} (Inv:α→Prop) (I:α→St) (μ:α→Nat) (live liveX:List Nat) (post:α→St) (lc:α→List (Nat×LC))
  (hlc: ∀x,Inv x→aI P m (lc x) body)
  (h: ∀x,Inv x→ ∃n p e b q s,aC m live liveX (aG tt ct (lc x) m n body (I x) p)=some (e,b,q,s)∧b=true∧(∀x∈q,x)∧
   ((e=.normal∧ ∃y,Inv y∧μ y<μ x∧s=I y∧post y=post x)∨(e=.exit id∧s=post x))):
  ∀x,Inv x→aS P m (.block id (.loop body)) (I x) fun e t=>e=.normal∧t=post x:=by
 refine aS.roundsR hT hct bK Inv I μ live liveX (fun _=> .normal) post lc hlc fun x hx=> ?_
 obtain⟨n,p,e,b,q,s,hr,hb,hq,hc⟩:=h x hx
 refine⟨n,p,e,b,q,s,hr,hb,hq, ?_⟩
 rcases hc with⟨h1,y,hy,hm,hs,e2⟩|⟨h1,h3⟩
 ·exact .inl ⟨h1,y,hy,hm,hs,rfl,e2⟩
 ·exact .inr (.inl ⟨h1,rfl,h3⟩)
end
end
section
theorem bA.view {P:Program} {f:FuncId} {args:List AV} {len es:Nat} {cap:Option Nat} {c:Con} (hm:bA P f args [] (.c (.sl 0 0 len es cap)) [.live c]) (hf:c.free=true) (hz:len*es=c.size):
  bA P f args [] (.c (.view none c len es cap)) []:=by
 refine⟨hm.1,fun {X w0 ρ0} m vs hl hv=> ?_⟩
 refine Calls.mono (hm.2 m vs hl hv) ?_
 rintro e w' ⟨v,ρ',rfl,mb,im,m',hr⟩
 have hun: ∀id,ρ0 id=.unborn:=fun id=>by
  have hs:=m.slot id
  rw[Heap.get_ge (by simp)]at hs
  cases hx:ρ0 id<;>rw[hx]at hs<;>first|rfl|exact hs.elim
 have hnl: ∀b, ¬bH ρ0 b:=fun b ⟨id,h⟩=>by rw[hun id]at h;cases h
 have mb2:eD w' (fun b=>bH ρ' b∨X b) w' (fun b=>bH ρ0 b∨X b):=⟨fun _ _ _=>rfl,fun _ _=>rfl,Nat.le_refl _,fun b hb=> .inl (hb.elim (fun h=>absurd h (hnl b)) .inr)⟩
 refine⟨v,ρ0,rfl,⟨mb.keep,mb.shape,mb.size,fun b hb=> .inl hb⟩,cB.refl _,⟨fun id=> ?_,(fun i j b hi _=>absurd (hun i) (by rw[hi];simp)),(fun id b hb=>absurd (hun id) (by rw[hb];simp)),m'.os,m'.tape,m'.output,m'.size,m'.keep,m'.foreign⟩, ?_⟩
 ·rw[Heap.get_ge (by simp),hun id];trivial
 ·have hs:Heap.get [aW.live c] 0=.live c:=rfl
  refine .c _ _ ?_
  rcases cW m' hs (cN hr)with⟨b,k,ty,n,hb,rfl,⟨cs,ty',hrow,hsz,hcs⟩,hsh,hn,hl',hcap⟩|⟨a,rfl,rfl,hcap⟩
  ·rw[Nat.zero_mul]
   refine .view none c len es cap b 0 k (fun q=>cs.getD q undef) (fun _ h=> ?_) (fun q hq=> ?_) (fun q hq=>((hcs q hq).free (eM hf q)).mono mb2 (cB.noIds _)) hz hl' hcap (fun _ h=>by cases h)
   ·rcases h with h|h
    ·exact hnl b h
    ·exact m'.notX hb h
   ·have hq':q<cs.size:=by omega
    simp[World.cell?,hrow,Array.getD,hq']
  ·exact .viewNone none c es cap a 0 (by omega) hcap (fun _ h=>by cases h) (fun _=>rfl)
end
section
def tt:Tab:=[
 none,
 some ⟨1,8,false,[.nilf],.cells,.other⟩,
 some ⟨1,8,false,[.int .i64 0],.ints .i64,.int .i64⟩,
 some ⟨1,8,false,[.int .i64 0],.ints .i64,.int .i64⟩,
 some ⟨1,1,false,[.bool false],.bools,.bool⟩,
 some ⟨1,1,false,[.int .u8 0],.ints .u8,.int .u8⟩,
 some ⟨1,1,false,[.int .u8 0],.ints .u8,.int .u8⟩,
 some ⟨4,24,true,[.int .i64 0,.int .i64 0,.bool false,.int .u8 0],.cells,.struct [(0,2),(1,3),(2,4),(3,6)]⟩,
 some ⟨4,24,true,[.int .i64 0,.int .i64 0,.bool false,.int .u8 0],.cells,.struct [(0,2),(1,3),(2,4),(3,6)]⟩,
 some ⟨1,16,false,[.str ByteArray.empty],.cells,.str⟩,
 some ⟨1,16,false,[.str ByteArray.empty],.cells,.str⟩,
 some ⟨1,16,false,[.str ByteArray.empty],.cells,.str⟩,
 some ⟨1,8,false,[.int .u64 0],.ints .u64,.int .u64⟩,
 some ⟨2,24,true,[.str ByteArray.empty,.int .u64 0],.cells,.struct [(0,9),(1,12)]⟩,
 some ⟨2,24,true,[.str ByteArray.empty,.int .u64 0],.cells,.struct [(0,9),(1,12)]⟩,
 some ⟨1,8,false,[.nilp],.cells,.ptr 224⟩,
 some ⟨1,8,false,[.nilp],.cells,.ptr 227⟩,
 some ⟨1,8,false,[.nilp],.cells,.ptr 235⟩,
 some ⟨1,8,true,[.nilp],.cells,.struct [(0,17)]⟩,
 some ⟨1,8,true,[.nilp],.cells,.struct [(0,17)]⟩,
 none,
 some ⟨1,4,false,[.int .i32 0],.ints .i32,.int .i32⟩,
 some ⟨1,24,false,[.nils],.ivs .u8,.slice 5⟩,
 some ⟨1,24,false,[.nils],.ivs .i64,.slice 3⟩,
 some ⟨1,24,false,[.nils],.cells,.slice 4⟩,
 some ⟨4,80,true,[.int .i64 0,.nils,.nils,.nils],.cells,.struct [(0,3),(1,23),(2,23),(3,24)]⟩,
 some ⟨4,80,true,[.int .i64 0,.nils,.nils,.nils],.cells,.struct [(0,3),(1,23),(2,23),(3,24)]⟩,
 some ⟨8,128,true,[.int .i64 0,.nils,.nils,.nils,.bool false,.int .i64 0,.nils,.int .i64 0],.cells,.struct [(0,26),(4,4),(5,3),(6,23),(7,3)]⟩,
 some ⟨8,128,true,[.int .i64 0,.nils,.nils,.nils,.bool false,.int .i64 0,.nils,.int .i64 0],.cells,.struct [(0,26),(4,4),(5,3),(6,23),(7,3)]⟩,
 none,
 some ⟨1,8,false,[.nilf],.cells,.other⟩,
 some ⟨1,8,false,[.nilf],.cells,.other⟩,
 some ⟨1,8,false,[.nilf],.cells,.other⟩,
 some ⟨1,8,false,[.nilf],.cells,.other⟩,
 none,
 some ⟨1,8,false,[.nilf],.cells,.other⟩,
 some ⟨1,8,false,[.nilf],.cells,.other⟩,
 none,
 some ⟨1,8,false,[.nilf],.cells,.other⟩,
 some ⟨1,8,false,[.nilf],.cells,.other⟩,
 none,
 some ⟨1,8,false,[.nilf],.cells,.other⟩,
 some ⟨1,8,false,[.nilf],.cells,.other⟩,
 none,
 some ⟨1,8,false,[.nilf],.cells,.other⟩,
 some ⟨1,8,false,[.nilf],.cells,.other⟩,
 some ⟨1,8,false,[.nilf],.cells,.other⟩,
 some ⟨1,8,false,[.nilf],.cells,.other⟩,
 some ⟨4,80,true,[.int .i64 0,.nils,.nils,.nils],.cells,.struct [(0,3),(1,23),(2,23),(3,24)]⟩,
 some ⟨8,128,true,[.int .i64 0,.nils,.nils,.nils,.bool false,.int .i64 0,.nils,.int .i64 0],.cells,.struct [(0,48),(4,4),(5,3),(6,23),(7,3)]⟩,
 some ⟨8,128,true,[.int .i64 0,.nils,.nils,.nils,.bool false,.int .i64 0,.nils,.int .i64 0],.cells,.struct [(0,48),(4,4),(5,3),(6,23),(7,3)]⟩,
 some ⟨1,8,false,[.nilf],.cells,.other⟩,
 some ⟨1,8,false,[.nilf],.cells,.other⟩,
 some ⟨1,8,false,[.nilf],.cells,.other⟩,
 some ⟨1,8,false,[.nilf],.cells,.other⟩,
 some ⟨1,24,false,[.nils],.cells,.slice 108⟩,
 none,
 some ⟨1,8,false,[.nilf],.cells,.other⟩,
 none,
 some ⟨1,8,false,[.nilf],.cells,.other⟩,
 some ⟨1,8,false,[.nilf],.cells,.other⟩,
 some ⟨1,8,false,[.nilf],.cells,.other⟩,
 none,
 some ⟨1,8,false,[.nilf],.cells,.other⟩,
 some ⟨1,8,false,[.nilf],.cells,.other⟩,
 some ⟨1,8,false,[.nilf],.cells,.other⟩,
 some ⟨1,8,false,[.nilf],.cells,.other⟩,
 some ⟨1,8,false,[.nilp],.cells,.ptr 111⟩,
 some ⟨1,8,false,[.nilf],.cells,.other⟩,
 some ⟨1,8,false,[.nilf],.cells,.other⟩,
 some ⟨1,8,false,[.nilf],.cells,.other⟩,
 some ⟨1,8,false,[.nilf],.cells,.other⟩,
 some ⟨1,8,false,[.nilf],.cells,.other⟩,
 some ⟨1,8,false,[.nilf],.cells,.other⟩,
 some ⟨1,8,false,[.nilf],.cells,.other⟩,
 some ⟨1,8,false,[.nilf],.cells,.other⟩,
 some ⟨1,8,false,[.nilf],.cells,.other⟩,
 some ⟨1,8,false,[.nilf],.cells,.other⟩,
 some ⟨1,8,false,[.nilf],.cells,.other⟩,
 some ⟨1,8,false,[.nilf],.cells,.other⟩,
 some ⟨1,8,false,[.nilf],.cells,.other⟩,
 some ⟨1,8,false,[.nilf],.cells,.other⟩,
 some ⟨1,8,false,[.nilf],.cells,.other⟩,
 some ⟨1,8,false,[.nilf],.cells,.other⟩,
 some ⟨1,8,false,[.nilf],.cells,.other⟩,
 some ⟨1,8,false,[.nilf],.cells,.other⟩,
 some ⟨1,8,false,[.nilf],.cells,.other⟩,
 some ⟨1,8,false,[.int .i64 0],.ints .i64,.int .i64⟩,
 some ⟨4,32,true,[.int .i64 0,.int .i64 0,.int .i64 0,.int .i64 0],.ints .i64,.arr 4 87⟩,
 some ⟨4,32,true,[.int .i64 0,.int .i64 0,.int .i64 0,.int .i64 0],.ints .i64,.arr 4 87⟩,
 none,
 some ⟨1,8,false,[.nilf],.cells,.other⟩,
 some ⟨1,8,false,[.nilf],.cells,.other⟩,
 some ⟨1,8,false,[.nilf],.cells,.other⟩,
 some ⟨1,8,false,[.nilf],.cells,.other⟩,
 some ⟨1,8,false,[.nilf],.cells,.other⟩,
 some ⟨1,8,false,[.nilf],.cells,.other⟩,
 some ⟨1,8,false,[.nilf],.cells,.other⟩,
 some ⟨1,8,false,[.nilf],.cells,.other⟩,
 some ⟨1,8,false,[.nilf],.cells,.other⟩,
 some ⟨1,8,false,[.nilf],.cells,.other⟩,
 some ⟨1,8,false,[.nilf],.cells,.other⟩,
 some ⟨1,8,false,[.nilf],.cells,.other⟩,
 some ⟨1,8,false,[.nilf],.cells,.other⟩,
 some ⟨1,8,false,[.nilf],.cells,.other⟩,
 some ⟨1,8,false,[.nilf],.cells,.other⟩,
 some ⟨1,8,false,[.nilf],.cells,.other⟩,
 some ⟨3,24,true,[.int .i64 0,.int .i64 0,.int .i64 0],.ints .i64,.struct [(0,3),(1,3),(2,3)]⟩,
 some ⟨3,24,true,[.int .i64 0,.int .i64 0,.int .i64 0],.ints .i64,.struct [(0,3),(1,3),(2,3)]⟩,
 some ⟨1,8,false,[.nilf],.cells,.other⟩,
 some ⟨2,32,true,[.nils,.int .i64 0],.cells,.struct [(0,22),(1,3)]⟩,
 some ⟨2,32,true,[.nils,.int .i64 0],.cells,.struct [(0,22),(1,3)]⟩,
 some ⟨1,8,false,[.nilf],.cells,.other⟩,
 some ⟨1,8,false,[.nilf],.cells,.other⟩,
 some ⟨1,8,false,[.nilf],.cells,.other⟩,
 some ⟨1,8,false,[.nilf],.cells,.other⟩,
 some ⟨1,8,false,[.nilf],.cells,.other⟩,
 some ⟨1,8,false,[.nilf],.cells,.other⟩,
 some ⟨1,8,false,[.nilf],.cells,.other⟩,
 some ⟨1,8,false,[.nilf],.cells,.other⟩,
 some ⟨1,8,false,[.nilf],.cells,.other⟩,
 some ⟨1,8,false,[.nilf],.cells,.other⟩,
 some ⟨3,56,true,[.int .i64 0,.nils,.nils],.cells,.struct [(0,3),(1,23),(2,23)]⟩,
 some ⟨3,56,true,[.int .i64 0,.nils,.nils],.cells,.struct [(0,3),(1,23),(2,23)]⟩,
 none,
 some ⟨1,8,false,[.nilf],.cells,.other⟩,
 some ⟨1,8,false,[.nilf],.cells,.other⟩,
 some ⟨1,8,false,[.nilf],.cells,.other⟩,
 some ⟨1,8,false,[.nilf],.cells,.other⟩,
 some ⟨1,8,false,[.nilf],.cells,.other⟩,
 some ⟨1,8,false,[.int .u64 0],.ints .u64,.int .u64⟩,
 none,
 some ⟨1,8,false,[.nilf],.cells,.other⟩,
 some ⟨1,8,false,[.nilf],.cells,.other⟩,
 some ⟨1,8,false,[.nilf],.cells,.other⟩,
 some ⟨1,8,false,[.nilf],.cells,.other⟩,
 some ⟨1,8,false,[.nilf],.cells,.other⟩,
 some ⟨1,8,false,[.nilf],.cells,.other⟩,
 some ⟨1,8,false,[.nilf],.cells,.other⟩,
 some ⟨1,8,false,[.nilf],.cells,.other⟩,
 some ⟨1,8,false,[.nilf],.cells,.other⟩,
 some ⟨1,8,false,[.nilf],.cells,.other⟩,
 some ⟨1,8,false,[.nilf],.cells,.other⟩,
 some ⟨1,8,false,[.nilf],.cells,.other⟩,
 some ⟨1,8,false,[.nilf],.cells,.other⟩,
 some ⟨1,8,false,[.nilf],.cells,.other⟩,
 some ⟨1,8,false,[.nilf],.cells,.other⟩,
 some ⟨1,8,false,[.nilf],.cells,.other⟩,
 some ⟨1,24,false,[.nils],.cells,.slice 23⟩,
 some ⟨1,8,false,[.nilf],.cells,.other⟩,
 some ⟨1,8,false,[.nilf],.cells,.other⟩,
 some ⟨1,8,false,[.nilf],.cells,.other⟩,
 some ⟨1,8,false,[.nilf],.cells,.other⟩,
 some ⟨1,8,false,[.nilf],.cells,.other⟩,
 some ⟨1,8,false,[.nilf],.cells,.other⟩,
 some ⟨1,8,false,[.nilf],.cells,.other⟩,
 some ⟨1,8,false,[.nilf],.cells,.other⟩,
 some ⟨1,8,false,[.nilf],.cells,.other⟩,
 some ⟨1,8,false,[.nilf],.cells,.other⟩,
 some ⟨1,8,false,[.nilf],.cells,.other⟩,
 some ⟨1,4,false,[.int .u32 0],.ints .u32,.int .u32⟩,
 none,
 some ⟨1,8,false,[.nilf],.cells,.other⟩,
 some ⟨1,8,false,[.int .u64 0],.ints .u64,.int .u64⟩,
 none,
 some ⟨1,8,false,[.nilf],.cells,.other⟩,
 some ⟨1,8,false,[.nilf],.cells,.other⟩,
 some ⟨1,8,false,[.nilf],.cells,.other⟩,
 some ⟨1,8,false,[.nilf],.cells,.other⟩,
 some ⟨1,8,false,[.nilf],.cells,.other⟩,
 some ⟨1,8,false,[.nilf],.cells,.other⟩,
 some ⟨1,8,false,[.nilf],.cells,.other⟩,
 some ⟨1,8,false,[.nilf],.cells,.other⟩,
 some ⟨1,8,false,[.nilf],.cells,.other⟩,
 some ⟨1,24,false,[.nils],.cells,.slice 89⟩,
 some ⟨1,24,false,[.nils],.cells,.slice 89⟩,
 some ⟨1,8,false,[.nilf],.cells,.other⟩,
 some ⟨1,8,false,[.nilp],.cells,.ptr 182⟩,
 some ⟨1,8,false,[.nilf],.cells,.other⟩,
 some ⟨1,24,false,[.nils],.cells,.slice 187⟩,
 some ⟨1,24,false,[.nils],.cells,.slice 185⟩,
 some ⟨2,48,true,[.nils,.nils],.cells,.struct [(0,180),(1,23)]⟩,
 some ⟨2,48,true,[.nils,.nils],.cells,.struct [(0,180),(1,23)]⟩,
 some ⟨8,64,true,[.int .i64 0,.int .i64 0,.int .i64 0,.int .i64 0,.int .i64 0,.int .i64 0,.int .i64 0,.int .i64 0],.ints .i64,.arr 8 87⟩,
 some ⟨12,96,true,[.int .i64 0,.int .i64 0,.int .i64 0,.int .i64 0,.int .i64 0,.int .i64 0,.int .i64 0,.int .i64 0,.int .i64 0,.int .i64 0,.int .i64 0,.int .i64 0],.ints .i64,.struct [(0,89),(4,183)]⟩,
 some ⟨12,96,true,[.int .i64 0,.int .i64 0,.int .i64 0,.int .i64 0,.int .i64 0,.int .i64 0,.int .i64 0,.int .i64 0,.int .i64 0,.int .i64 0,.int .i64 0,.int .i64 0],.ints .i64,.struct [(0,89),(4,183)]⟩,
 some ⟨5,40,true,[.int .i64 0,.int .i64 0,.int .i64 0,.int .i64 0,.int .i64 0],.ints .i64,.struct [(0,89),(4,87)]⟩,
 some ⟨5,40,true,[.int .i64 0,.int .i64 0,.int .i64 0,.int .i64 0,.int .i64 0],.ints .i64,.struct [(0,89),(4,87)]⟩,
 some ⟨1,8,false,[.nilf],.cells,.other⟩,
 some ⟨1,8,false,[.nilf],.cells,.other⟩,
 some ⟨1,8,false,[.nilf],.cells,.other⟩,
 some ⟨1,8,false,[.nilf],.cells,.other⟩,
 none,
 some ⟨1,8,false,[.nilf],.cells,.other⟩,
 some ⟨1,8,false,[.nilf],.cells,.other⟩,
 some ⟨1,8,false,[.nilf],.cells,.other⟩,
 some ⟨1,8,false,[.int .i64 0],.ints .i64,.int .i64⟩,
 none,
 some ⟨1,8,false,[.nilf],.cells,.other⟩,
 some ⟨1,8,false,[.nilf],.cells,.other⟩,
 some ⟨1,8,false,[.nilf],.cells,.other⟩,
 some ⟨1,8,false,[.nilf],.cells,.other⟩,
 none,
 some ⟨1,8,false,[.nilf],.cells,.other⟩,
 some ⟨1,8,false,[.nilf],.cells,.other⟩,
 some ⟨1,8,false,[.nilf],.cells,.other⟩,
 some ⟨1,8,false,[.nilf],.cells,.other⟩,
 some ⟨1,8,false,[.nilf],.cells,.other⟩,
 some ⟨1,8,false,[.nilf],.cells,.other⟩,
 some ⟨1,8,false,[.nilf],.cells,.other⟩,
 some ⟨1,8,false,[.nilf],.cells,.other⟩,
 some ⟨1,24,false,[.nils],.ivs .i64,.slice 87⟩,
 some ⟨1,8,false,[.nilf],.cells,.other⟩,
 some ⟨1,8,false,[.int .u64 0],.ints .u64,.int .u64⟩,
 some ⟨1,8,false,[.nilf],.cells,.other⟩,
 some ⟨1,8,false,[.nilf],.cells,.other⟩,
 some ⟨1,8,false,[.nilf],.cells,.other⟩,
 some ⟨1,8,false,[.nilp],.cells,.ptr 3⟩,
 some ⟨1,8,false,[.nilf],.cells,.other⟩,
 some ⟨1,8,false,[.nilp],.cells,.ptr 213⟩,
 none,
 some ⟨1,8,false,[.nilf],.cells,.other⟩,
 some ⟨1,8,false,[.nilf],.cells,.other⟩,
 some ⟨4,40,true,[.nilp,.nilp,.nilp,.str ByteArray.empty],.cells,.struct [(0,17),(1,17),(2,17),(3,9)]⟩,
 some ⟨4,40,true,[.nilp,.nilp,.nilp,.str ByteArray.empty],.cells,.struct [(0,17),(1,17),(2,17),(3,9)]⟩,
 none,
 none,
 none,
 some ⟨1,1,false,[.int .u8 0],.ints .u8,.int .u8⟩,
 some ⟨1,1,false,[.int .u8 0],.ints .u8,.int .u8⟩,
 some ⟨1,8,false,[.nilf],.cells,.other⟩,
 some ⟨1,8,false,[.nilp],.cells,.ptr 5⟩,
 some ⟨1,4,false,[.int .i32 0],.ints .i32,.int .i32⟩,
 some ⟨1,4,false,[.int .i32 0],.ints .i32,.int .i32⟩,
 some ⟨11,48,true,[.int .u64 0,.int .u64 0,.int .u32 0,.int .u8 0,.int .u8 0,.int .u8 0,.int .u8 0,.nilf,.nilp,.int .i32 0,.int .i32 0],.cells,.struct [(0,12),(1,12),(2,160),(3,228),(4,5),(5,5),(6,229),(7,230),(8,231),(9,232),(10,233)]⟩,
 some ⟨11,48,true,[.int .u64 0,.int .u64 0,.int .u32 0,.int .u8 0,.int .u8 0,.int .u8 0,.int .u8 0,.nilf,.nilp,.int .i32 0,.int .i32 0],.cells,.struct [(0,12),(1,12),(2,160),(3,228),(4,5),(5,5),(6,229),(7,230),(8,231),(9,232),(10,233)]⟩,
 none]
end
section
theorem hT:iV Tryz.prog tt:=NP (by kernel_rfl)
theorem bK:Tryz.prog.follows .mixedOrders=true:=by kernel_rfl
theorem cG {ct:CT} (hct:bJ Tryz.prog ct) {lc:List (Nat×LC)} {fuel:Nat} {f:FuncId} {fn:Func} {args:List AV} {h:List aW} {p:i6} {o:tZ} (hf:Tryz.prog.funcs[f]? =some fn)
  (hnm:(fn.name== "runtime.NumGoroutine")=false) (he:aD tt ct lc fuel fn args h p=some o) (ho:o.obl=true) (hq: ∀q∈o.eqs,q) (hlc: ∀c,fn.body=some c→aI Tryz.prog h.length lc c):
  bA Tryz.prog f args h o.res o.heap:=q7 hT hct bK hf hnm he ho hq hlc
theorem mo {ct:CT} (hct:bJ Tryz.prog ct) {lc:List (Nat×LC)} {fuel:Nat} {f:FuncId} {fn:Func} {args:List AV} {h:List aW} {p:i6} {o:tZ} (he:aD tt ct lc fuel fn args h p=some o) (ho:o.obl=true) (hf:Tryz.prog.funcs[f]? =some fn:=by kernel_rfl)
  (hnm:(fn.name== "runtime.NumGoroutine")=false:=by kernel_rfl) (hq: ∀q∈o.eqs,q:=by simp) (hlc: ∀c,fn.body=some c→aI Tryz.prog h.length lc c:=by exact fun _ _=>aI.nil):
  bA Tryz.prog f args h o.res o.heap:=cG hct hf hnm he ho hq hlc
end
section
def dY (bs:List Bool):Nat→Nat→List Int
 |0,_=>[]
 |k+1,i=>if bs.getD i false then(i:Int)::dY bs k (i+1)else dY bs k (i+1)
def flg (bs:List Bool):List Int:=dY bs bs.length 0
noncomputable abbrev f112:=Tryz.f128
def u6 (nl:Option Bool) (cap:Option Nat) (bs:List Bool) (i:Int) (n:Nat) (out:List Int):St:=
 aY 21 [(7,.c (.view nl (.bools bs) bs.length 1 cap)),(8,.c (.int .i64 bs.length)),(9,.c (.int .i64 i)),(3,.c (.sl 0 0 n 1 none))] [.live (.ints .i64 out)]
def KE (n:Nat) (out:List Int):St:=aY 21 [(3,.c (.sl 0 0 n 1 none))] [.live (.ints .i64 out)]
section
variable (ct : CT) (nl : Option Bool) (cap : Option Nat) (bs : List Bool) (i : Int) (n : Nat) (out : List Int)
theorem RB:aC 0 (a8 f112 0) (aA f112 0) (aG tt ct [] 0 100 (a0 0 (a5 f112)) (u6 nl cap bs i n out) [(0,true),(0,true)])=
  some (.normal,(decide (i<bs.length)&&(decide (0≤i)&&(decide (i<bs.length)&&(decide (i.toNat<bs.length)&&(bs.getD i.toNat false&&(decide (1=[i].length)&&(decide (n=out.length)&&(decide (n+1≤274877906944)&&true)))))))),[],
   u6 nl cap bs (IntKind.i64.wrap (i+1)) (n+1) (out++[i])):=by kernel_rfl
theorem RC:aC 0 (a8 f112 0) (aA f112 0) (aG tt ct [] 0 100 (a0 0 (a5 f112)) (u6 nl cap bs i n out) [(0,true),(0,false)])=
  some (.normal,(decide (i<bs.length)&&(decide (0≤i)&&(decide (i<bs.length)&&(decide (i.toNat<bs.length)&&(!bs.getD i.toNat false&&true))))),[],
   u6 nl cap bs (IntKind.i64.wrap (i+1)) n out):=by kernel_rfl
theorem RD:aC 0 (a8 f112 0) (aA f112 0) (aG tt ct [] 0 100 (a0 0 (a5 f112)) (u6 nl cap bs i n out) [(0,false)])=
  some (.exit 0,(!decide (i<bs.length)&&true),[],KE n out):=by kernel_rfl
end
theorem aB {i:Int} (h0:0≤i) (h1:i<9223372036854775808):IntKind.i64.wrap i=i:=by
 simp[IntKind.wrap,IntKind.bits,IntKind.signed]
 omega
theorem vC (bs:List Bool): ∀k i,(dY bs k i).length≤k
 |0,_=>by simp[dY]
 |k+1,i=>by
  have:=vC bs k (i+1)
  simp only[dY];split<;>simp<;>omega
def FL:aN:=fun args h=>
 match args,h with
 |[.c (.view nl (.bools bs) len 1 cap)],[]=>some (.c (.sl 0 0 (flg bs).length 1 none),[.live (.ints .i64 (flg bs))],[decide (bs.length≤274877906944)])
 |_,_=>none
theorem a4H {ct:CT} (hct:bJ Tryz.prog ct) (nl:Option Bool) (cap:Option Nat) (bs:List Bool) (hl:bs.length≤274877906944):
  aS Tryz.prog 0 (.block 0 (.loop (a0 0 (a5 f112)))) (u6 nl cap bs 0 0 []) fun e t=>e=.normal∧t=KE (flg bs).length (flg bs):=by
 have key:=aS.roundsN hT hct bK (m:=0) (id:=0) (body:=a0 0 (a5 f112)) (α:=Nat×List Int)
  (fun x=>x.1≤bs.length∧x.2.length≤x.1∧x.2++dY bs (bs.length-x.1) x.1=flg bs) (fun x=>u6 nl cap bs x.1 x.2.length x.2) (fun x=>bs.length-x.1) (a8 f112 0) (aA f112 0)
  (fun _=>KE (flg bs).length (flg bs)) (fun _=>[]) (fun _ _=>aI.nil) (fun x hx=> ?_) (0,[]) ⟨by simp,by simp,by simp[flg]⟩
 ·exact key
 ·obtain⟨i,out⟩:=x
  obtain⟨h1,h2,h3⟩:=hx
  dsimp only at h1 h2 h3⊢
  by_cases hi:i<bs.length
  ·have hk:bs.length-i=(bs.length-(i+1))+1:=by omega
   rw[hk]at h3
   simp only[dY]at h3
   cases hb:bs.getD i false with
   |true=>
    refine⟨_,_,_,_,_,_,RB ct nl cap bs i out.length out, ?_,by simp,.inl ⟨rfl,(i+1,out++[(i:Int)]),⟨by omega,by simp;omega, ?_⟩,by dsimp only;omega, ?_,rfl⟩⟩
    ·simp[-List.getD_eq_getElem?_getD,hi,hb];omega
    ·rw[hb]at h3;simpa using h3
    ·rw[aB (by omega) (by omega)];simp
   |false=>
    refine⟨_,_,_,_,_,_,RC ct nl cap bs i out.length out, ?_,by simp,.inl ⟨rfl,(i+1,out),⟨by omega,by dsimp only;omega, ?_⟩,by dsimp only;omega, ?_,rfl⟩⟩
    ·simp[-List.getD_eq_getElem?_getD,hi,hb]
    ·rw[hb]at h3;simpa using h3
    ·rw[aB (by omega) (by omega)];simp
  ·have hz:bs.length-i=0:=by omega
   rw[hz]at h3
   simp only[dY,List.append_nil]at h3
   refine⟨_,_,_,_,_,_,RD ct nl cap bs i out.length out, ?_,by simp,.inr ⟨rfl,by rw[h3]⟩⟩
   simp;omega
theorem a5C {ct:CT} (hct:bJ Tryz.prog ct):aP Tryz.prog 128 FL:=by
 intro args h res h' o he ho
 unfold FL at he
 split at he
 ·rename_i nl bs len cap
  simp only[Option.some.injEq,Prod.mk.injEq]at he
  obtain⟨rfl,rfl,rfl⟩:=he
  have hl:bs.length≤274877906944:=by simpa using ho
  refine bA.len ⟨f112,by kernel_rfl,by kernel_rfl,by kernel_rfl⟩ fun hlen=> ?_
  have:len=bs.length:=by have:=hlen _ (List.mem_singleton.2 rfl);simpa [AV.lenOk,aF.lenOk,Con.size]using this
  subst this
  exact cG hct (fn:=f112) (lc:=[(0,⟨a8 f112 0,u6 nl cap bs 0 0 [],.normal,KE (flg bs).length (flg bs)⟩)]) (fuel:=100) (p:=[]) (o:=⟨_,_,true,[u6 nl cap bs 0 0 []=u6 nl cap bs 0 0 []]⟩) (by kernel_rfl) (by kernel_rfl) (by kernel_rfl) rfl
   (by simp) (fun c hc=>aI.cons (c:=c) (by cases hc;kernel_rfl) (by cases hc;exact a4H hct nl cap bs hl) aI.nil)
 ·cases he
end
section
def fok (n:Int):Bool:=decide (0≤n)&&decide (n≤30)
theorem cQ {n:Int}:fok n=true↔0≤n∧n≤30:=by simp[fok]
theorem dM {i:Int} (h0: -9223372036854775808≤i) (h1:i<9223372036854775808):IntKind.i64.wrap i=i:=by
 simp[IntKind.wrap,IntKind.bits,IntKind.signed]
 omega
theorem LD (n:Int):(IntKind.i64.wrap (n.tmod 31+31)).tmod 31=n%31:=by
 have h1: -31<n.tmod 31:=Int.lt_tmod_of_pos n (by omega)
 have h2:n.tmod 31<31:=Int.tmod_lt_of_pos n (by omega)
 rw[dM (by omega) (by omega),Int.tmod_eq_emod_of_nonneg (by omega),Int.add_emod_right]
 rcases Int.le_total 0 n with h|h
 ·rw[Int.tmod_eq_emod_of_nonneg h];omega
 ·have:n.tmod 31= -((-n).tmod 31):=by rw[Int.neg_tmod];simp
  rw[this,Int.tmod_eq_emod_of_nonneg (by omega)];omega
def bet (n lo hi:Int):Bool:=decide (lo≤n)&&decide (n≤hi)
def uQ:aN:=fun args h=>
 match args,h with
 |[.c (.int .i64 n),.c (.int .i64 lo),.c (.int .i64 hi)],[]=>some (.c (.bool (bet n lo hi)),[],[])
 |_,_=>none
theorem a5H:aP Tryz.prog 109 uQ:=by
 intro args h res h' o he ho
 unfold uQ at he
 split at he
 ·rename_i n lo hi
  simp only[Option.some.injEq,Prod.mk.injEq]at he
  obtain⟨rfl,rfl,rfl⟩:=he
  by_cases hc:n≥lo
  ·have e:aD tt (a9 []) [] 100 Tryz.f109 [.c (.int .i64 n),.c (.int .i64 lo),.c (.int .i64 hi)] [] [(0,true)]=some ⟨.c (.bool (bif decide (n≥lo)then decide (n≤hi)else false)),[],decide (n≥lo)&&(decide (n≥lo)&&(decide (n≥lo)&&true)),[]⟩:=by kernel_rfl
   have hr:(bif decide (n≥lo)then decide (n≤hi)else false)=bet n lo hi:=by
    have:lo≤n:=hc
    simp[bet,this]
   rw[hr]at e
   exact mo (aM (a6.nil _)) e (by simp[hc])
  ·have e:aD tt (a9 []) [] 100 Tryz.f109 [.c (.int .i64 n),.c (.int .i64 lo),.c (.int .i64 hi)] [] [(0,false)]=some ⟨.c (.bool false),[], !decide (n≥lo)&&(!decide (n≥lo)&&(!decide (n≥lo)&&(!decide (n≥lo)&&true))),[]⟩:=by kernel_rfl
   have hr:false=bet n lo hi:=by
    have: ¬lo≤n:=hc
    simp[bet,this]
   rw[hr]at e
   exact mo (aM (a6.nil _)) e (by simp;omega)
 ·cases he
theorem m61:aP Tryz.prog 52 uQ:=by
 intro args h res h' o he ho
 unfold uQ at he
 split at he
 ·rename_i n lo hi
  simp only[Option.some.injEq,Prod.mk.injEq]at he
  obtain⟨rfl,rfl,rfl⟩:=he
  by_cases hc:n≥lo
  ·have e:aD tt (a9 []) [] 100 Tryz.f52 [.c (.int .i64 n),.c (.int .i64 lo),.c (.int .i64 hi)] [] [(0,true)]=some ⟨.c (.bool (bif decide (n≥lo)then decide (n≤hi)else false)),[],decide (n≥lo)&&(decide (n≥lo)&&(decide (n≥lo)&&true)),[]⟩:=by kernel_rfl
   have hr:(bif decide (n≥lo)then decide (n≤hi)else false)=bet n lo hi:=by
    have:lo≤n:=hc
    simp[bet,this]
   rw[hr]at e
   exact mo (aM (a6.nil _)) e (by simp[hc])
  ·have e:aD tt (a9 []) [] 100 Tryz.f52 [.c (.int .i64 n),.c (.int .i64 lo),.c (.int .i64 hi)] [] [(0,false)]=some ⟨.c (.bool false),[], !decide (n≥lo)&&(!decide (n≥lo)&&(!decide (n≥lo)&&(!decide (n≥lo)&&true))),[]⟩:=by kernel_rfl
   have hr:false=bet n lo hi:=by
    have: ¬lo≤n:=hc
    simp[bet,this]
   rw[hr]at e
   exact mo (aM (a6.nil _)) e (by simp;omega)
 ·cases he
def y8:aN:=fun args h=>
 match args,h with
 |[.c (.int .i64 n)],[]=>some (.c (.int .i64 (n%31)),[],[])
 |_,_=>none
theorem XC:aP Tryz.prog 198 y8:=by
 intro args h res h' o he ho
 unfold y8 at he
 split at he
 ·rename_i n
  simp only[Option.some.injEq,Prod.mk.injEq]at he
  obtain⟨rfl,rfl,rfl⟩:=he
  have e:aD tt (a9 []) [] 100 Tryz.f198 [.c (.int .i64 n)] [] []=some ⟨.c (.int .i64 ((IntKind.i64.wrap (n.tmod 31+31)).tmod 31)),[],true,[]⟩:=by kernel_rfl
  rw[LD]at e
  exact mo (aM (a6.nil _)) e rfl
 ·cases he
def inv (n:Int):Int:=[0,1,16,21,8,25,26,9,4,7,28,17,13,12,20,29,2,11,19,18,14,3,24,27,22,5,6,23,10,15,30].getD n.toNat 0
def uS:aN:=fun args h=>
 match args,h with
 |[.c (.int .i64 n)],[]=>some (.c (.int .i64 (inv n)),[],[fok n])
 |_,_=>none
theorem LV {q:Int→Prop} (h: ∀k:Nat,k<31→q k) {n:Int} (hn:fok n=true):q n:=by
 obtain⟨h0,h1⟩:=cQ.1 hn
 have:=h n.toNat (by omega)
 rwa[show(n.toNat:Int)=n from by omega]at this
def c7 (f:Nat→Bool):Nat→Bool
 |0=>true
 |n+1=>f n&&c7 f n
theorem aV {f:Nat→Bool}: ∀ {n:Nat},c7 f n=true→ ∀k,k<n→f k=true
 |0,_,k,h=>absurd h (by omega)
 |n+1,h,k,hk=>by
  simp only[c7,Bool.and_eq_true,rpS]at h
  by_cases e:k=n
  ·subst e;exact h.1
  ·exact aV h.2 k (by omega)
def k9 (r:Option tZ) (n:Int):Bool:=
 match r with
 |some ⟨.c (.int .i64 m),[],true,[]⟩=>m==n
 |_=>false
theorem i9 {r:Option tZ} {n:Int} (h:k9 r n=true):r=some ⟨.c (.int .i64 n),[],true,[]⟩:=by
 unfold k9 at h
 split at h
 ·simp at h;subst h;rfl
 ·cases h
def T2a:List bD:=[⟨198,[],y8⟩]
theorem t2a:bJ Tryz.prog (a9 T2a):=aM (a6.cons (e:=⟨198,[],y8⟩) XC (a6.nil _))
theorem a6P:aP Tryz.prog 214 uS:=by
 intro args h res h' o he ho
 unfold uS at he
 split at he
 ·rename_i n
  simp only[Option.some.injEq,Prod.mk.injEq]at he
  obtain⟨rfl,rfl,rfl⟩:=he
  refine LV (q:=fun n=>bA Tryz.prog _ [.c (.int .i64 n)] [] (.c (.int .i64 (inv n))) []) (fun k hk=> ?_) (ho _ (List.mem_singleton.2 rfl))
  have all:c7 (fun k=>k9 (aD tt (a9 T2a) [] 1000 Tryz.f214 [.c (.int .i64 k)] [] []) (inv k)) 31=true:=by kernel_rfl
  have e:=i9 (aV all k hk)
  exact mo t2a e rfl
 ·cases he
theorem a6N:aP Tryz.prog 217 uS:=by
 intro args h res h' o he ho
 unfold uS at he
 split at he
 ·rename_i n
  simp only[Option.some.injEq,Prod.mk.injEq]at he
  obtain⟨rfl,rfl,rfl⟩:=he
  refine LV (q:=fun n=>bA Tryz.prog _ [.c (.int .i64 n)] [] (.c (.int .i64 (inv n))) []) (fun k hk=> ?_) (ho _ (List.mem_singleton.2 rfl))
  have all:c7 (fun k=>k9 (aD tt (a9 []) [] 1000 Tryz.f217 [.c (.int .i64 k)] [] []) (inv k)) 31=true:=by kernel_rfl
  have e:=i9 (aV all k hk)
  exact mo (aM (a6.nil _)) e rfl
 ·cases he
def T2:List bD:=[⟨198,[],y8⟩,⟨109,[],uQ⟩,⟨52,[],uQ⟩,⟨214,[],uS⟩,⟨217,[],uS⟩,⟨128,[],FL⟩]
theorem e2:a6 Tryz.prog T2:=by
 intro e he
 simp only[T2,List.mem_cons,List.not_mem_nil,or_false]at he
 rcases he with rfl|rfl|rfl|rfl|rfl|rfl
 ·exact XC
 ·exact a5H
 ·exact m61
 ·exact a6P
 ·exact a6N
 ·exact a5C (aM (a6.nil _))
theorem t2:bJ Tryz.prog (a9 T2):=aM e2
end
section
def uR:aN:=fun args h=>
 match args,h with
 |[.c (.int .i64 n)],[]=>some (.c (.bool (fok n)),[],[])
 |_,_=>none
def gK (lo hi:Int):aN:=fun args h=>
 match args,h with
 |[.c (.int .i64 n)],[]=>some (.c (.bool (bet n lo hi)),[],[])
 |_,_=>none
def B8:aN:=fun args h=>
 match args,h with
 |[.c (.int .i64 n),.c (.int .i64 m)],[]=>some (.c (.int .i64 ((n+m)%31)),[],[fok n,fok m])
 |_,_=>none
def wR:aN:=fun args h=>
 match args,h with
 |[.c (.int .i64 n),.c (.int .i64 m)],[]=>some (.c (.int .i64 ((n*m)%31)),[],[fok n,fok m])
 |_,_=>none
def wL:aN:=fun args h=>
 match args,h with
 |[.c (.int .i64 n),.c (.int .i64 m)],[]=>some (.c (.int .i64 ((n-m)%31)),[],[fok n,fok m])
 |_,_=>none
theorem AK {n m:Int} (hn:fok n=true) (hm:fok m=true):IntKind.i64.wrap (n+m)=n+m:=by
 obtain⟨a,b⟩:=cQ.1 hn;obtain⟨c,d⟩:=cQ.1 hm
 exact dM (by omega) (by omega)
theorem K3 {n m:Int} (hn:fok n=true) (hm:fok m=true):IntKind.i64.wrap (n-m)=n-m:=by
 obtain⟨a,b⟩:=cQ.1 hn;obtain⟨c,d⟩:=cQ.1 hm
 exact dM (by omega) (by omega)
theorem kZ {n m:Int} (hn:fok n=true) (hm:fok m=true):0≤n*m∧n*m≤900:=by
 obtain⟨a,b⟩:=cQ.1 hn;obtain⟨c,d⟩:=cQ.1 hm
 refine⟨Int.mul_nonneg a c, ?_⟩
 have:=Int.mul_le_mul b d c (by omega:(0:Int)≤30)
 omega
theorem oG {n m:Int} (hn:fok n=true) (hm:fok m=true):IntKind.i64.wrap (n*m)=n*m:=by
 obtain⟨a,b⟩:=kZ hn hm
 exact dM (by omega) (by omega)
theorem a5I:aP Tryz.prog 132 uR:=by
 intro args h res h' o he ho
 unfold uR at he
 split at he
 ·rename_i n
  simp only[Option.some.injEq,Prod.mk.injEq]at he
  obtain⟨rfl,rfl,rfl⟩:=he
  have e:aD tt (a9 T2) [] 100 Tryz.f132 [.c (.int .i64 n)] [] []=some ⟨.c (.bool (fok n)),[],true,[]⟩:=by kernel_rfl
  exact mo t2 e rfl
 ·cases he
theorem a55:aP Tryz.prog 117 uR:=by
 intro args h res h' o he ho
 unfold uR at he
 split at he
 ·rename_i n
  simp only[Option.some.injEq,Prod.mk.injEq]at he
  obtain⟨rfl,rfl,rfl⟩:=he
  have e:aD tt (a9 T2) [] 100 Tryz.f117 [.c (.int .i64 n)] [] []=some ⟨.c (.bool (fok n)),[],true,[]⟩:=by kernel_rfl
  exact mo t2 e rfl
 ·cases he
theorem m68:aP Tryz.prog 67 (gK 1 2):=by
 intro args h res h' o he ho
 unfold gK at he
 split at he
 ·rename_i n
  simp only[Option.some.injEq,Prod.mk.injEq]at he
  obtain⟨rfl,rfl,rfl⟩:=he
  have e:aD tt (a9 T2) [] 100 Tryz.f67 [.c (.int .i64 n)] [] []=some ⟨.c (.bool (bet n 1 2)),[],true,[]⟩:=by kernel_rfl
  exact mo t2 e rfl
 ·cases he
theorem m79:aP Tryz.prog 48 (gK 0 7):=by
 intro args h res h' o he ho
 unfold gK at he
 split at he
 ·rename_i n
  simp only[Option.some.injEq,Prod.mk.injEq]at he
  obtain⟨rfl,rfl,rfl⟩:=he
  have e:aD tt (a9 T2) [] 100 Tryz.f48 [.c (.int .i64 n)] [] []=some ⟨.c (.bool (bet n 0 7)),[],true,[]⟩:=by kernel_rfl
  exact mo t2 e rfl
 ·cases he
theorem m69:aP Tryz.prog 75 (gK 1 99):=by
 intro args h res h' o he ho
 unfold gK at he
 split at he
 ·rename_i n
  simp only[Option.some.injEq,Prod.mk.injEq]at he
  obtain⟨rfl,rfl,rfl⟩:=he
  have e:aD tt (a9 T2) [] 100 Tryz.f75 [.c (.int .i64 n)] [] []=some ⟨.c (.bool (bet n 1 99)),[],true,[]⟩:=by kernel_rfl
  exact mo t2 e rfl
 ·cases he
theorem m54:aP Tryz.prog 56 (gK 1 2):=by
 intro args h res h' o he ho
 unfold gK at he
 split at he
 ·rename_i n
  simp only[Option.some.injEq,Prod.mk.injEq]at he
  obtain⟨rfl,rfl,rfl⟩:=he
  have e:aD tt (a9 T2) [] 100 Tryz.f56 [.c (.int .i64 n)] [] []=some ⟨.c (.bool (bet n 1 2)),[],true,[]⟩:=by kernel_rfl
  exact mo t2 e rfl
 ·cases he
theorem a65:aP Tryz.prog 166 B8:=by
 intro args h res h' o he ho
 unfold B8 at he
 split at he
 ·rename_i n m
  simp only[Option.some.injEq,Prod.mk.injEq]at he
  obtain⟨rfl,rfl,rfl⟩:=he
  have e:aD tt (a9 T2) [] 100 Tryz.f166 [.c (.int .i64 n),.c (.int .i64 m)] [] []=some ⟨.c (.int .i64 ((IntKind.i64.wrap (n+m))%31)),[],true,[]⟩:=by kernel_rfl
  rw[AK (ho (fok n) (by simp)) (ho (fok m) (by simp))]at e
  exact mo t2 e rfl
 ·cases he
theorem a66:aP Tryz.prog 167 wR:=by
 intro args h res h' o he ho
 unfold wR at he
 split at he
 ·rename_i n m
  simp only[Option.some.injEq,Prod.mk.injEq]at he
  obtain⟨rfl,rfl,rfl⟩:=he
  have e:aD tt (a9 T2) [] 100 Tryz.f167 [.c (.int .i64 n),.c (.int .i64 m)] [] []=some ⟨.c (.int .i64 ((IntKind.i64.wrap (n*m))%31)),[],true,[]⟩:=by kernel_rfl
  rw[oG (ho (fok n) (by simp)) (ho (fok m) (by simp))]at e
  exact mo t2 e rfl
 ·cases he
theorem a6I:aP Tryz.prog 188 wL:=by
 intro args h res h' o he ho
 unfold wL at he
 split at he
 ·rename_i n m
  simp only[Option.some.injEq,Prod.mk.injEq]at he
  obtain⟨rfl,rfl,rfl⟩:=he
  have e:aD tt (a9 T2) [] 100 Tryz.f188 [.c (.int .i64 n),.c (.int .i64 m)] [] []=some ⟨.c (.int .i64 ((IntKind.i64.wrap (n-m))%31)),[],true,[]⟩:=by kernel_rfl
  rw[K3 (ho (fok n) (by simp)) (ho (fok m) (by simp))]at e
  exact mo t2 e rfl
 ·cases he
def T3:List bD:=[⟨132,[],uR⟩,⟨117,[],uR⟩,⟨67,[],gK 1 2⟩,⟨48,[],gK 0 7⟩,⟨75,[],gK 1 99⟩,⟨56,[],gK 1 2⟩,⟨166,[],B8⟩,⟨167,[],wR⟩,⟨188,[],wL⟩]++T2
theorem e3:a6 Tryz.prog T3:=by
 refine a6.append ?_ e2
 intro e he
 simp only[List.mem_cons,List.not_mem_nil,or_false]at he
 rcases he with rfl|rfl|rfl|rfl|rfl|rfl|rfl|rfl|rfl
 ·exact a5I
 ·exact a55
 ·exact m68
 ·exact m79
 ·exact m69
 ·exact m54
 ·exact a65
 ·exact a66
 ·exact a6I
theorem t3:bJ Tryz.prog (a9 T3):=aM e3
end
section
def wV:aN:=fun args h=>
 match args,h with
 |[.agg [.int .i64 a,.int .i64 b,.int .i64 c,.int .i64 d],.agg [.int .i64 x,.int .i64 y,.int .i64 z,.int .i64 t]],[]=>
  some (.agg [.int .i64 ((a+x)%31),.int .i64 ((b+y)%31),.int .i64 ((c+z)%31),.int .i64 ((d+t)%31)],[],[fok a,fok x,fok b,fok y,fok c,fok z,fok d,fok t])
 |_,_=>none
def rV:aN:=fun args h=>
 match args,h with
 |[.agg [.int .i64 a,.int .i64 b,.int .i64 c,.int .i64 d],.c (.int .i64 x)],[]=>
  some (.agg [.int .i64 ((a*x)%31),.int .i64 ((b*x)%31),.int .i64 ((c*x)%31),.int .i64 ((d*x)%31)],[],[fok a,fok x,fok b,fok x,fok c,fok x,fok d,fok x])
 |_,_=>none
def C2 (a b c d x y z t:Int):Int:=((((0+(a*x)%31)%31+(b*y)%31)%31+(c*z)%31)%31+(d*t)%31)%31
def BP:aN:=fun args h=>
 match args,h with
 |[.agg [.int .i64 a,.int .i64 b,.int .i64 c,.int .i64 d],.agg [.int .i64 x,.int .i64 y,.int .i64 z,.int .i64 t]],[]=>
  some (.c (.int .i64 (C2 a b c d x y z t)),[],[fok a,fok x,fok b,fok y,fok c,fok z,fok d,fok t])
 |_,_=>none
def wU:aN:=fun args h=>
 match args,h with
 |[.agg [.int .i64 a,.int .i64 b,.int .i64 c,.int .i64 d]],[]=>some (.c (.sl 0 0 4 1 none),[.live (.ints .i64 [a,b,c,d])],[])
 |_,_=>none
theorem bY (n:Int):fok (n%31)=true:=cQ.2 ⟨by omega,by omega⟩
theorem a64:aP Tryz.prog 171 wV:=by
 intro args h res h' o he ho
 unfold wV at he
 split at he
 ·rename_i a b c d x y z t
  simp only[Option.some.injEq,Prod.mk.injEq]at he
  obtain⟨rfl,rfl,rfl⟩:=he
  have e:aD tt (a9 T3) [] 100 Tryz.f171 [.agg [.int .i64 a,.int .i64 b,.int .i64 c,.int .i64 d],.agg [.int .i64 x,.int .i64 y,.int .i64 z,.int .i64 t]] [] []=some ⟨.agg [.int .i64 ((a+x)%31),.int .i64 ((b+y)%31),.int .i64 ((c+z)%31),.int .i64 ((d+t)%31)],[],(fok a&&(fok x&&(fok b&&(fok y&&(fok c&&(fok z&&(fok d&&(fok t&&true)))))))),[]⟩:=by kernel_rfl
  simp only[List.mem_cons,List.not_mem_nil,or_false,forall_eq_or_imp,forall_eq]at ho
  exact mo t3 e (by simp[ho])
 ·cases he
theorem a6H:aP Tryz.prog 187 rV:=by
 intro args h res h' o he ho
 unfold rV at he
 split at he
 ·rename_i a b c d x
  simp only[Option.some.injEq,Prod.mk.injEq]at he
  obtain⟨rfl,rfl,rfl⟩:=he
  have e:aD tt (a9 T3) [] 100 Tryz.f187 [.agg [.int .i64 a,.int .i64 b,.int .i64 c,.int .i64 d],.c (.int .i64 x)] [] []=some ⟨.agg [.int .i64 ((a*x)%31),.int .i64 ((b*x)%31),.int .i64 ((c*x)%31),.int .i64 ((d*x)%31)],[],(fok a&&(fok x&&(fok b&&(fok x&&(fok c&&(fok x&&(fok d&&(fok x&&true)))))))),[]⟩:=by kernel_rfl
  simp only[List.mem_cons,List.not_mem_nil,or_false,forall_eq_or_imp,forall_eq]at ho
  exact mo t3 e (by simp[ho])
 ·cases he
theorem a5M:aP Tryz.prog 126 BP:=by
 intro args h res h' o he ho
 unfold BP at he
 split at he
 ·rename_i a b c d x y z t
  simp only[Option.some.injEq,Prod.mk.injEq]at he
  obtain⟨rfl,rfl,rfl⟩:=he
  have e:aD tt (a9 T3) [] 100 Tryz.f126 [.agg [.int .i64 a,.int .i64 b,.int .i64 c,.int .i64 d],.agg [.int .i64 x,.int .i64 y,.int .i64 z,.int .i64 t]] [] []=some ⟨.c (.int .i64 (C2 a b c d x y z t)),[],(fok a&&(fok x&&(fok ((a*x)%31)&&(fok b&&(fok y&&(fok ((0+(a*x)%31)%31)&&(fok ((b*y)%31)&&(fok c&&(fok z&&(fok (((0+(a*x)%31)%31+(b*y)%31)%31)&&(fok ((c*z)%31)&&(fok d&&(fok t&&(fok ((((0+(a*x)%31)%31+(b*y)%31)%31+(c*z)%31)%31)&&(fok ((d*t)%31)&&true))))))))))))))),[]⟩:=by kernel_rfl
  simp only[List.mem_cons,List.not_mem_nil,or_false,forall_eq_or_imp,forall_eq]at ho
  exact mo t3 e (by simp[ho,bY])
 ·cases he
theorem a5X:aP Tryz.prog 153 wU:=by
 intro args h res h' o he ho
 unfold wU at he
 split at he
 ·rename_i a b c d
  simp only[Option.some.injEq,Prod.mk.injEq]at he
  obtain⟨rfl,rfl,rfl⟩:=he
  have e:aD tt (a9 T3) [] 100 Tryz.f153 [.agg [.int .i64 a,.int .i64 b,.int .i64 c,.int .i64 d]] [] []=some ⟨.c (.sl 0 0 4 1 none),[.live (.ints .i64 [a,b,c,d])],true,[]⟩:=by kernel_rfl
  exact mo t3 e rfl
 ·cases he
end
section
def eqC:aF→aF→Bool
 |.int k n,.int k' n'=>decide (k=k')&&decide (n=n')
 |.bool b,.bool b'=>b==b'
 |.sl id o len es none,.sl id' o' len' es' none=>id==id'&&o==o'&&len==len'&&es==es'
 |_,_=>false
theorem yZ {x y:aF} (h:eqC x y=true):x=y:=by
 unfold eqC at h
 split at h
 ·simp at h;obtain⟨rfl,rfl⟩:=h;rfl
 ·simp at h;subst h;rfl
 ·simp at h;obtain⟨⟨⟨rfl,rfl⟩,rfl⟩,rfl⟩:=h;rfl
 ·cases h
def eqL {α:Type} (f:α→α→Bool):List α→List α→Bool
 |[],[]=>true
 |x::r,y::s=>f x y&&eqL f r s
 |_,_=>false
theorem iJ {α:Type} {f:α→α→Bool} (hf: ∀x y,f x y=true→x=y): ∀ {l r:List α},eqL f l r=true→l=r
 |[],[],_=>rfl
 |x::l,y::r,h=>by
  simp only[eqL,Bool.and_eq_true,rpS]at h
  rw[hf _ _ h.1,iJ hf h.2]
 |[],_::_,h=>by simp[eqL]at h
 |_::_,[],h=>by simp[eqL]at h
def eqA:AV→AV→Bool
 |.c x,.c y=>eqC x y
 |.agg l,.agg r=>eqL eqC l r
 |_,_=>false
theorem HK {x y:AV} (h:eqA x y=true):x=y:=by
 unfold eqA at h
 split at h
 ·rw[yZ h]
 ·rw[iJ (fun _ _=>yZ) h]
 ·cases h
def eqS:aW→aW→Bool
 |.live (.ints k xs),.live (.ints k' ys)=>decide (k=k')&&eqL (fun a b=>decide (a=b)) xs ys
 |.live (.bools xs),.live (.bools ys)=>eqL (fun a b=>a==b) xs ys
 |_,_=>false
theorem HL {x y:aW} (h:eqS x y=true):x=y:=by
 unfold eqS at h
 split at h
 ·simp only[Bool.and_eq_true,rpS,decide_eq_true_eq]at h
  obtain⟨rfl,h⟩:=h
  rw[iJ (fun a b h=>by simpa using h) h]
 ·rw[iJ (fun a b h=>by simpa using h) h]
 ·cases h
def vE (r:Option tZ) (res:AV) (heap:List aW):Bool:=
 match r with
 |some ⟨a,h,true,[]⟩=>eqA a res&&eqL eqS h heap
 |_=>false
theorem j7 {r:Option tZ} {res:AV} {heap:List aW} (h:vE r res heap=true):r=some ⟨res,heap,true,[]⟩:=by
 unfold vE at h
 split at h
 ·simp only[Bool.and_eq_true,rpS]at h
  rw[HK h.1,iJ (fun _ _=>HL) h.2]
 ·cases h
def OV (n:Int):List aF:=[.int .i64 (if n=0 then 1 else 0),.int .i64 (if n=1 then 1 else 0),.int .i64 (if n=2 then 1 else 0),.int .i64 (if n=3 then 1 else 0)]
def BN:aN:=fun args h=>
 match args,h with
 |[.c (.int .i64 n)],[]=>some (.agg (OV n),[],[bet n 0 3])
 |_,_=>none
def R3 (x:Int):List aF:=[.int .i64 1,.int .i64 (1*x%31),.int .i64 (1*x%31*x%31),.int .i64 (1*x%31*x%31*x%31)]
def G6:aN:=fun args h=>
 match args,h with
 |[.c (.int .i64 x)],[]=>some (.agg (R3 x),[],[fok x])
 |_,_=>none
theorem a63:aP Tryz.prog 170 BN:=by
 intro args h res h' o he ho
 unfold BN at he
 split at he
 ·rename_i n
  simp only[Option.some.injEq,Prod.mk.injEq]at he
  obtain⟨rfl,rfl,rfl⟩:=he
  have hb:=ho (bet n 0 3) (List.mem_singleton.2 rfl)
  simp only[bet,Bool.and_eq_true,rpS,decide_eq_true_eq]at hb
  have all:c7 (fun k=>vE (aD tt (a9 T3) [] 1000 Tryz.f170 [.c (.int .i64 (k:Nat))] [] []) (.agg (OV (k:Nat))) []) 4=true:=by kernel_rfl
  have e:=j7 (aV all n.toNat (by omega))
  rw[show((n.toNat:Nat):Int)=n from by omega]at e
  exact mo t3 e rfl
 ·cases he
theorem a62:aP Tryz.prog 169 G6:=by
 intro args h res h' o he ho
 unfold G6 at he
 split at he
 ·rename_i n
  simp only[Option.some.injEq,Prod.mk.injEq]at he
  obtain⟨rfl,rfl,rfl⟩:=he
  refine LV (q:=fun n=>bA Tryz.prog _ [.c (.int .i64 n)] [] (.agg (R3 n)) []) (fun k hk=> ?_) (ho _ (List.mem_singleton.2 rfl))
  have all:c7 (fun k=>vE (aD tt (a9 T3) [] 1000 Tryz.f169 [.c (.int .i64 k)] [] []) (.agg (R3 k)) []) 31=true:=by kernel_rfl
  exact mo t3 (j7 (aV all k hk)) rfl
 ·cases he
def T5a:List bD:=[⟨170,[],BN⟩,⟨169,[],G6⟩,⟨171,[],wV⟩]++T3
theorem e5a:a6 Tryz.prog T5a:=by
 refine a6.append ?_ e3
 intro e he
 simp only[List.mem_cons,List.not_mem_nil,or_false]at he
 rcases he with rfl|rfl|rfl
 ·exact a63
 ·exact a62
 ·exact a64
theorem t5a:bJ Tryz.prog (a9 T5a):=aM e5a
def C8 (r:Option tZ) (xs:List Int) (len:Nat):Bool:=
 match r with
 |some ⟨.c (.view none (.ints .i64 ys) l 1 none),[],true,[]⟩=>eqL (fun a b=>decide (a=b)) ys xs&&l==len
 |_=>false
theorem zA {r:Option tZ} {xs:List Int} {len:Nat} (h:C8 r xs len=true):r=some ⟨.c (.view none (.ints .i64 xs) len 1 none),[],true,[]⟩:=by
 unfold C8 at h
 split at h
 ·simp only[Bool.and_eq_true,rpS,beq_iff_eq]at h
  rw[iJ (fun a b h=>by simpa using h) h.1,h.2]
 ·cases h
def aH (kind at_:Int):List Int:=
 if kind=1 then [[1,0,0,0],[0,1,0,0],[0,0,1,0],[0,0,0,1],[1,1,0,0],[0,0,1,1],[1,2,4,8],[1,3,9,27]].getD at_.toNat []
 else [1,(at_+1)%31,(at_+1)*(at_+1)%31,(at_+1)*(at_+1)*(at_+1)%31]
def SZ (kind at_:Int):List aF:=[.int .i64 ((aH kind at_).getD 0 0),.int .i64 ((aH kind at_).getD 1 0),.int .i64 ((aH kind at_).getD 2 0),.int .i64 ((aH kind at_).getD 3 0)]
def G8:aN:=fun args h=>
 match args,h with
 |[.c (.int .i64 k),.c (.int .i64 a)],[]=>some (.agg (SZ k a),[],[bet k 1 2,bet a 0 7])
 |_,_=>none
def wG:aN:=fun args h=>
 match args,h with
 |[.c (.int .i64 k),.c (.int .i64 a)],[]=>some (.c (.view none (.ints .i64 (aH k a)) 4 1 none),[],[bet k 1 2,bet a 0 7])
 |_,_=>none
theorem J3 {q:Int→Int→Prop} (h: ∀k:Nat,k<16→q ((k/8:Nat)+1:Int) (k%8:Nat)) {k a:Int} (hk:bet k 1 2=true) (ha:bet a 0 7=true):q k a:=by
 simp only[bet,Bool.and_eq_true,rpS,decide_eq_true_eq]at hk ha
 have:=h ((k.toNat-1)*8+a.toNat) (by omega)
 have e1:(((((k.toNat-1)*8+a.toNat)/8:Nat):Int)+1)=k:=by omega
 have e2:((((k.toNat-1)*8+a.toNat)%8:Nat):Int)=a:=by omega
 rwa[e1,e2]at this
theorem a5L:aP Tryz.prog 125 G8:=by
 intro args h res h' o he ho
 unfold G8 at he
 split at he
 ·rename_i k a
  simp only[Option.some.injEq,Prod.mk.injEq]at he
  obtain⟨rfl,rfl,rfl⟩:=he
  refine J3 (q:=fun k a=>bA Tryz.prog _ [.c (.int .i64 k),.c (.int .i64 a)] [] (.agg (SZ k a)) []) (fun i hi=> ?_) (ho _ (by simp)) (ho _ (by simp))
  have all:c7 (fun k=>vE (aD tt (a9 T5a) [] 1000 Tryz.f125 [.c (.int .i64 ((k/8:Nat)+1:Int)),.c (.int .i64 (k%8:Nat))] [] []) (.agg (SZ ((k/8:Nat)+1:Int) (k%8:Nat))) []) 16=true:=by kernel_rfl
  exact mo t5a (j7 (aV all i hi)) rfl
 ·cases he
theorem a5A:aP Tryz.prog 120 wG:=by
 intro args h res h' o he ho
 unfold wG at he
 split at he
 ·rename_i k a
  simp only[Option.some.injEq,Prod.mk.injEq]at he
  obtain⟨rfl,rfl,rfl⟩:=he
  refine J3 (q:=fun k a=>bA Tryz.prog _ [.c (.int .i64 k),.c (.int .i64 a)] [] (.c (.view none (.ints .i64 (aH k a)) 4 1 none)) []) (fun i hi=> ?_) (ho _ (by simp)) (ho _ (by simp))
  by_cases h8:i<8
  ·have all:c7 (fun k=>C8 (aD tt (a9 T3) [] 1000 Tryz.f120 [.c (.int .i64 ((k/8:Nat)+1:Int)),.c (.int .i64 (k%8:Nat))] [] []) (aH ((k/8:Nat)+1:Int) (k%8:Nat)) 4) 8=true:=by kernel_rfl
   exact mo t3 (zA (aV all i h8)) rfl
  ·have all:c7 (fun k=>vE (aD tt (a9 T3) [] 1000 Tryz.f120 [.c (.int .i64 (((k+8)/8:Nat)+1:Int)),.c (.int .i64 ((k+8)%8:Nat))] [] []) (.c (.sl 0 0 4 1 none)) [.live (.ints .i64 (aH (((k+8)/8:Nat)+1:Int) ((k+8)%8:Nat)))]) 8=true:=by kernel_rfl
   have e:=j7 (aV all (i-8) (by omega))
   rw[show i-8+8=i from by omega]at e
   refine bA.view (mo t3 e rfl) rfl ?_
   have:(((i/8:Nat)+1:Int))=2:=by omega
   rw[this];rfl
 ·cases he
def T5:List bD:=[⟨125,[],G8⟩,⟨120,[],wG⟩,⟨187,[],rV⟩,⟨126,[],BP⟩,⟨153,[],wU⟩]++T5a
theorem e5:a6 Tryz.prog T5:=by
 refine a6.append ?_ e5a
 intro e he
 simp only[List.mem_cons,List.not_mem_nil,or_false]at he
 rcases he with rfl|rfl|rfl|rfl|rfl
 ·exact a5L
 ·exact a5A
 ·exact a6H
 ·exact a5M
 ·exact a5X
theorem t5:bJ Tryz.prog (a9 T5):=aM e5
end
section
def a7 (v:List Int):Bool:=v.all fok
theorem aO {v:List Int} (h:a7 v=true) (i:Nat):fok (v.getD i 0)=true:=by
 rcases Nat.lt_or_ge i v.length with hi|hi
 ·rw[List.getD_eq_getElem?_getD,List.getElem?_eq_getElem hi]
  exact List.all_eq_true.1 h _ (List.getElem_mem hi)
 ·rw[List.getD_eq_getElem?_getD,List.getElem?_eq_none hi];rfl
theorem nM {n:Int} (h:0≤n):n.tmod 31=n%31:=Int.tmod_eq_emod_of_nonneg h
def q6 (v w:List Int):Nat→Nat→Int→Int
 |0,_,n=>n
 |k+1,i,n=>q6 v w k (i+1) ((n+v.getD i 0*w.getD i 0)%31)
def aQ (v w:List Int):Int:=q6 v w v.length 0 0
noncomputable abbrev f108:=Tryz.f119
def y9 (nl nl2:Option Bool) (cap cap2:Option Nat) (v w:List Int) (i n:Int):St:=
 aY 26 [(0,.c (.view nl (.ints .i64 v) v.length 1 cap)),(1,.c (.view nl2 (.ints .i64 w) w.length 1 cap2)),(5,.c (.int .i64 n)),(6,.c (.int .i64 i))] []
def KD (n:Int):St:=aY 26 [(5,.c (.int .i64 n))] []
section
variable (ct : CT) (nl nl2 : Option Bool) (cap cap2 : Option Nat) (v w : List Int) (i n : Int)
theorem R9:aC 0 (a8 f108 0) (aA f108 0) (aG tt ct [] 0 100 (a0 0 (a5 f108)) (y9 nl nl2 cap cap2 v w i n) [(0,true)])=
  some (.normal,(decide (i<v.length)&&(decide (0≤i)&&(decide (i<v.length)&&(decide (i.toNat<v.length)&&(decide (0≤i)&&(decide (i<w.length)&&(decide (i.toNat<w.length)&&true))))))),[],
   y9 nl nl2 cap cap2 v w (IntKind.i64.wrap (i+1)) ((IntKind.i64.wrap (n+IntKind.i64.wrap (v.getD i.toNat 0*w.getD i.toNat 0))).tmod 31)):=by kernel_rfl
theorem RA:aC 0 (a8 f108 0) (aA f108 0) (aG tt ct [] 0 100 (a0 0 (a5 f108)) (y9 nl nl2 cap cap2 v w i n) [(0,false)])=
  some (.exit 0,(!decide (i<v.length)&&true),[],KD n):=by kernel_rfl
end
theorem sI {n a b:Int} (hn:fok n=true) (ha:fok a=true) (hb:fok b=true):(IntKind.i64.wrap (n+IntKind.i64.wrap (a*b))).tmod 31=(n+a*b)%31:=by
 obtain⟨h1,h2⟩:=kZ ha hb
 obtain⟨h3,h4⟩:=cQ.1 hn
 rw[oG ha hb,dM (by omega) (by omega),nM (by omega)]
theorem a4G {ct:CT} (hct:bJ Tryz.prog ct) (nl nl2:Option Bool) (cap cap2:Option Nat) (v w:List Int) (hl:v.length≤274877906944) (hvw:v.length≤w.length) (hv:a7 v=true) (hw:a7 w=true):
  aS Tryz.prog 0 (.block 0 (.loop (a0 0 (a5 f108)))) (y9 nl nl2 cap cap2 v w 0 0) fun e t=>e=.normal∧t=KD (aQ v w):=by
 refine aS.roundsN hT hct bK (m:=0) (id:=0) (body:=a0 0 (a5 f108)) (α:=Nat×Int)
  (fun x=>x.1≤v.length∧fok x.2=true∧q6 v w (v.length-x.1) x.1 x.2=aQ v w) (fun x=>y9 nl nl2 cap cap2 v w x.1 x.2) (fun x=>v.length-x.1) (a8 f108 0) (aA f108 0)
  (fun _=>KD (aQ v w)) (fun _=>[]) (fun _ _=>aI.nil) (fun x hx=> ?_) (0,0) ⟨by simp,rfl,rfl⟩
 obtain⟨i,n⟩:=x
 obtain⟨h1,h2,h3⟩:=hx
 dsimp only at h1 h2 h3⊢
 by_cases hi:i<v.length
 ·have hk:v.length-i=(v.length-(i+1))+1:=by omega
  rw[hk]at h3
  simp only[q6]at h3
  refine⟨_,_,_,_,_,_,R9 ct nl nl2 cap cap2 v w i n, ?_,by simp,.inl ⟨rfl,(i+1,(n+v.getD i 0*w.getD i 0)%31),⟨by omega,bY _,h3⟩,by dsimp only;omega, ?_,rfl⟩⟩
  ·simp;omega
  ·rw[aB (by omega) (by omega),Int.toNat_natCast,sI h2 (aO hv i) (aO hw i)];simp
 ·have hz:v.length-i=0:=by omega
  rw[hz]at h3
  simp only[q6]at h3
  exact⟨_,_,_,_,_,_,RA ct nl nl2 cap cap2 v w i n,by simp;omega,by simp,.inr ⟨rfl,by rw[h3]⟩⟩
def FU:aN:=fun args h=>
 match args,h with
 |[.c (.view nl (.ints .i64 v) len 1 cap),.c (.view nl2 (.ints .i64 w) len2 1 cap2)],[]=>
  some (.c (.int .i64 (aQ v w)),[],[decide (v.length≤274877906944),decide (v.length≤w.length),a7 v,a7 w])
 |_,_=>none
theorem a59 {ct:CT} (hct:bJ Tryz.prog ct):aP Tryz.prog 119 FU:=by
 intro args h res h' o he ho
 unfold FU at he
 split at he
 ·rename_i nl v len cap nl2 w len2 cap2
  simp only[Option.some.injEq,Prod.mk.injEq]at he
  obtain⟨rfl,rfl,rfl⟩:=he
  simp only[List.mem_cons,List.not_mem_nil,or_false,forall_eq_or_imp,forall_eq,decide_eq_true_eq]at ho
  obtain⟨o1,o2,o3,o4⟩:=ho
  refine bA.len ⟨f108,by kernel_rfl,by kernel_rfl,by kernel_rfl⟩ fun hlen=> ?_
  simp only[List.mem_cons,List.not_mem_nil,or_false,forall_eq_or_imp,forall_eq,AV.lenOk,aF.lenOk,Con.size,Nat.mul_one]at hlen
  obtain⟨rfl,rfl⟩:=hlen
  exact cG hct (fn:=f108) (lc:=[(0,⟨a8 f108 0,y9 nl nl2 cap cap2 v w 0 0,.normal,KD (aQ v w)⟩)]) (fuel:=100) (p:=[]) (o:=⟨_,_,true,[y9 nl nl2 cap cap2 v w 0 0=y9 nl nl2 cap cap2 v w 0 0]⟩)
   (by kernel_rfl) (by kernel_rfl) (by kernel_rfl) rfl (by simp) (fun c hc=>aI.cons (c:=c) (by cases hc;kernel_rfl) (by cases hc;exact a4G hct nl nl2 cap cap2 v w o1 o2 o3 o4) aI.nil)
 ·cases he
end
section
def gV (f:Nat→Int):Nat→Nat→List Int
 |0,_=>[]
 |k+1,i=>f i::gV f k (i+1)
theorem p8 (f:Nat→Int): ∀k i,(gV f k i).length=k
 |0,_=>rfl
 |k+1,i=>by simp[gV,p8 f k (i+1)]
def NM (v w:List Int) (i:Nat):Int:=(v.getD i 0+w.getD i 0)%31
def tT (v w:List Int):List Int:=gV (NM v w) v.length 0
noncomputable abbrev m8:=Tryz.f218
noncomputable def yE (nl nl2:Option Bool) (cap cap2:Option Nat) (v w:List Int) (i:Int) (n:Nat) (out:List Int):St:=
 aY m8.ntmps [(0,.c (.view nl (.ints .i64 v) v.length 1 cap)),(1,.c (.view nl2 (.ints .i64 w) w.length 1 cap2)),(5,.c (.sl 0 0 n 1 none)),(6,.c (.int .i64 i))] [.live (.ints .i64 out)]
noncomputable def KS (n:Nat) (out:List Int):St:=aY m8.ntmps [(5,.c (.sl 0 0 n 1 none))] [.live (.ints .i64 out)]
section
variable (ct : CT) (nl nl2 : Option Bool) (cap cap2 : Option Nat) (v w : List Int) (i : Int) (n : Nat) (out : List Int)
theorem SK:aC 0 (a8 m8 0) (aA m8 0) (aG tt ct [] 0 100 (a0 0 (a5 m8)) (yE nl nl2 cap cap2 v w i n out) [(0,true)])=
  some (.normal,(decide (i<v.length)&&(decide (0≤i)&&(decide (i<v.length)&&(decide (i.toNat<v.length)&&(decide (0≤i)&&(decide (i<w.length)&&(decide (i.toNat<w.length)&&
   (decide (1=[(IntKind.i64.wrap (v.getD i.toNat 0+w.getD i.toNat 0)).tmod 31].length)&&(decide (n=out.length)&&(decide (n+1≤274877906944)&&true)))))))))),[],
   yE nl nl2 cap cap2 v w (IntKind.i64.wrap (i+1)) (n+1) (out++[(IntKind.i64.wrap (v.getD i.toNat 0+w.getD i.toNat 0)).tmod 31])):=by kernel_rfl
theorem SL:aC 0 (a8 m8 0) (aA m8 0) (aG tt ct [] 0 100 (a0 0 (a5 m8)) (yE nl nl2 cap cap2 v w i n out) [(0,false)])=
  some (.exit 0,(!decide (i<v.length)&&true),[],KS n out):=by kernel_rfl
end
theorem JV {a b:Int} (ha:fok a=true) (hb:fok b=true):(IntKind.i64.wrap (a+b)).tmod 31=(a+b)%31:=by
 obtain⟨h3,h4⟩:=cQ.1 ha;obtain⟨h1,h2⟩:=cQ.1 hb
 rw[AK ha hb,nM (by omega)]
theorem a4Z {ct:CT} (hct:bJ Tryz.prog ct) (nl nl2:Option Bool) (cap cap2:Option Nat) (v w:List Int) (hl:v.length≤274877906944) (hvw:v.length≤w.length) (hv:a7 v=true) (hw:a7 w=true):
  aS Tryz.prog 0 (.block 0 (.loop (a0 0 (a5 m8)))) (yE nl nl2 cap cap2 v w 0 0 []) fun e t=>e=.normal∧t=KS v.length (tT v w):=by
 refine aS.roundsN hT hct bK (m:=0) (id:=0) (body:=a0 0 (a5 m8)) (α:=Nat×List Int)
  (fun x=>x.1≤v.length∧x.2.length=x.1∧x.2++gV (NM v w) (v.length-x.1) x.1=tT v w) (fun x=>yE nl nl2 cap cap2 v w x.1 x.2.length x.2) (fun x=>v.length-x.1) (a8 m8 0) (aA m8 0)
  (fun _=>KS v.length (tT v w)) (fun _=>[]) (fun _ _=>aI.nil) (fun x hx=> ?_) (0,[]) ⟨by simp,rfl,rfl⟩
 obtain⟨i,out⟩:=x
 obtain⟨h1,h2,h3⟩:=hx
 dsimp only at h1 h2 h3⊢
 by_cases hi:i<v.length
 ·have hk:v.length-i=(v.length-(i+1))+1:=by omega
  rw[hk]at h3
  simp only[gV]at h3
  refine⟨_,_,_,_,_,_,SK ct nl nl2 cap cap2 v w i out.length out, ?_,by simp,.inl ⟨rfl,(i+1,out++[NM v w i]),⟨by omega,by simp[h2],by simpa using h3⟩,by dsimp only;omega, ?_,rfl⟩⟩
  ·simp;omega
  ·rw[aB (by omega) (by omega),Int.toNat_natCast,JV (aO hv i) (aO hw i)];simp[NM]
 ·have hz:v.length-i=0:=by omega
  rw[hz]at h3
  simp only[gV,List.append_nil]at h3
  have e:out.length=v.length:=by omega
  exact⟨_,_,_,_,_,_,SL ct nl nl2 cap cap2 v w i out.length out,by simp;omega,by simp,.inr ⟨rfl,by rw[←h3,e]⟩⟩
def GD:aN:=fun args h=>
 match args,h with
 |[.c (.view nl (.ints .i64 v) len 1 cap),.c (.view nl2 (.ints .i64 w) len2 1 cap2)],[]=>
  some (.c (.sl 0 0 v.length 1 none),[.live (.ints .i64 (tT v w))],[decide (v.length≤274877906944),decide (v.length≤w.length),a7 v,a7 w])
 |_,_=>none
theorem XD {ct:CT} (hct:bJ Tryz.prog ct):aP Tryz.prog 218 GD:=by
 intro args h res h' o he ho
 unfold GD at he
 split at he
 ·rename_i nl v len cap nl2 w len2 cap2
  simp only[Option.some.injEq,Prod.mk.injEq]at he
  obtain⟨rfl,rfl,rfl⟩:=he
  simp only[List.mem_cons,List.not_mem_nil,or_false,forall_eq_or_imp,forall_eq,decide_eq_true_eq]at ho
  obtain⟨o1,o2,o3,o4⟩:=ho
  refine bA.len ⟨m8,by kernel_rfl,by kernel_rfl,by kernel_rfl⟩ fun hlen=> ?_
  simp only[List.mem_cons,List.not_mem_nil,or_false,forall_eq_or_imp,forall_eq,AV.lenOk,aF.lenOk,Con.size,Nat.mul_one]at hlen
  obtain⟨rfl,rfl⟩:=hlen
  exact cG hct (fn:=m8) (lc:=[(0,⟨a8 m8 0,yE nl nl2 cap cap2 v w 0 0 [],.normal,KS v.length (tT v w)⟩)]) (fuel:=100) (p:=[]) (o:=⟨_,_,true,[yE nl nl2 cap cap2 v w 0 0 []=yE nl nl2 cap cap2 v w 0 0 []]⟩)
   (by kernel_rfl) (by kernel_rfl) (by kernel_rfl) rfl (by simp) (fun c hc=>aI.cons (c:=c) (by cases hc;kernel_rfl) (by cases hc;exact a4Z hct nl nl2 cap cap2 v w o1 o2 o3 o4) aI.nil)
 ·cases he
end
section
def pG (v:List Int) (c:Int) (i:Nat):Int:=(v.getD i 0*c)%31
def dW (v:List Int) (c:Int):List Int:=gV (pG v c) v.length 0
noncomputable abbrev f156:=Tryz.f194
noncomputable def yC (nl:Option Bool) (cap:Option Nat) (v:List Int) (c i:Int) (n:Nat) (out:List Int):St:=
 aY f156.ntmps [(0,.c (.view nl (.ints .i64 v) v.length 1 cap)),(1,.c (.int .i64 c)),(5,.c (.sl 0 0 n 1 none)),(6,.c (.int .i64 i))] [.live (.ints .i64 out)]
noncomputable def KN (n:Nat) (out:List Int):St:=aY f156.ntmps [(5,.c (.sl 0 0 n 1 none))] [.live (.ints .i64 out)]
section
variable (ct : CT) (nl : Option Bool) (cap : Option Nat) (v : List Int) (c i : Int) (n : Nat) (out : List Int)
theorem S8:aC 0 (a8 f156 0) (aA f156 0) (aG tt ct [] 0 100 (a0 0 (a5 f156)) (yC nl cap v c i n out) [(0,true)])=
  some (.normal,(decide (i<v.length)&&(decide (0≤i)&&(decide (i<v.length)&&(decide (i.toNat<v.length)&&((decide (1=[(IntKind.i64.wrap (v.getD i.toNat 0*c)).tmod 31].length)&&(decide (n=out.length)&&(decide (n+1≤274877906944)&&true)))))))),[],
   yC nl cap v c (IntKind.i64.wrap (i+1)) (n+1) (out++[(IntKind.i64.wrap (v.getD i.toNat 0*c)).tmod 31])):=by kernel_rfl
theorem S9:aC 0 (a8 f156 0) (aA f156 0) (aG tt ct [] 0 100 (a0 0 (a5 f156)) (yC nl cap v c i n out) [(0,false)])=
  some (.exit 0,(!decide (i<v.length)&&true),[],KN n out):=by kernel_rfl
end
theorem CO {a b:Int} (ha:fok a=true) (hb:fok b=true):(IntKind.i64.wrap (a*b)).tmod 31=(a*b)%31:=by
 obtain⟨h1,h2⟩:=kZ ha hb
 rw[oG ha hb,nM (by omega)]
theorem a4U {ct:CT} (hct:bJ Tryz.prog ct) (nl:Option Bool) (cap:Option Nat) (v:List Int) (c:Int) (hl:v.length≤274877906944) (hv:a7 v=true) (hc:fok c=true):
  aS Tryz.prog 0 (.block 0 (.loop (a0 0 (a5 f156)))) (yC nl cap v c 0 0 []) fun e t=>e=.normal∧t=KN v.length (dW v c):=by
 refine aS.roundsN hT hct bK (m:=0) (id:=0) (body:=a0 0 (a5 f156)) (α:=Nat×List Int)
  (fun x=>x.1≤v.length∧x.2.length=x.1∧x.2++gV (pG v c) (v.length-x.1) x.1=dW v c) (fun x=>yC nl cap v c x.1 x.2.length x.2) (fun x=>v.length-x.1) (a8 f156 0) (aA f156 0)
  (fun _=>KN v.length (dW v c)) (fun _=>[]) (fun _ _=>aI.nil) (fun x hx=> ?_) (0,[]) ⟨by simp,rfl,rfl⟩
 obtain⟨i,out⟩:=x
 obtain⟨h1,h2,h3⟩:=hx
 dsimp only at h1 h2 h3⊢
 by_cases hi:i<v.length
 ·have hk:v.length-i=(v.length-(i+1))+1:=by omega
  rw[hk]at h3
  simp only[gV]at h3
  refine⟨_,_,_,_,_,_,S8 ct nl cap v c i out.length out, ?_,by simp,.inl ⟨rfl,(i+1,out++[pG v c i]),⟨by omega,by simp[h2],by simpa using h3⟩,by dsimp only;omega, ?_,rfl⟩⟩
  ·simp;omega
  ·rw[aB (by omega) (by omega),Int.toNat_natCast,CO (aO hv i) hc];simp[pG]
 ·have hz:v.length-i=0:=by omega
  rw[hz]at h3
  simp only[gV,List.append_nil]at h3
  have e:out.length=v.length:=by omega
  exact⟨_,_,_,_,_,_,S9 ct nl cap v c i out.length out,by simp;omega,by simp,.inr ⟨rfl,by rw[←h3,e]⟩⟩
def r7:aN:=fun args h=>
 match args,h with
 |[.c (.view nl (.ints .i64 v) len 1 cap),.c (.int .i64 c)],[]=>
  some (.c (.sl 0 0 v.length 1 none),[.live (.ints .i64 (dW v c))],[decide (v.length≤274877906944),a7 v,fok c])
 |_,_=>none
theorem QV {ct:CT} (hct:bJ Tryz.prog ct):aP Tryz.prog 194 r7:=by
 intro args h res h' o he ho
 unfold r7 at he
 split at he
 ·rename_i nl v len cap c
  simp only[Option.some.injEq,Prod.mk.injEq]at he
  obtain⟨rfl,rfl,rfl⟩:=he
  simp only[List.mem_cons,List.not_mem_nil,or_false,forall_eq_or_imp,forall_eq,decide_eq_true_eq]at ho
  obtain⟨o1,o2,o3⟩:=ho
  refine bA.len ⟨f156,by kernel_rfl,by kernel_rfl,by kernel_rfl⟩ fun hlen=> ?_
  simp only[List.mem_cons,List.not_mem_nil,or_false,forall_eq_or_imp,forall_eq,AV.lenOk,aF.lenOk,Con.size,Nat.mul_one]at hlen
  obtain⟨rfl,-⟩:=hlen
  exact cG hct (fn:=f156) (lc:=[(0,⟨a8 f156 0,yC nl cap v c 0 0 [],.normal,KN v.length (dW v c)⟩)]) (fuel:=100) (p:=[]) (o:=⟨_,_,true,[yC nl cap v c 0 0 []=yC nl cap v c 0 0 []]⟩)
   (by kernel_rfl) (by kernel_rfl) (by kernel_rfl) rfl (by simp) (fun cc hc=>aI.cons (c:=cc) (by cases hc;kernel_rfl) (by cases hc;exact a4U hct nl cap v c o1 o2 o3) aI.nil)
 ·cases he
end
section
def fP (v:List Int):Nat→Nat→Option Nat
 |0,_=>none
 |k+1,i=>if v.getD i 0=0 then fP v k (i+1)else some i
def kB (v:List Int):Option Nat:=fP v v.length 0
def b9 (v:List Int):Int:=match kB v with|some j=>(j:Int)|none=> -1
noncomputable abbrev f154:=Tryz.f192
noncomputable def qS (nl:Option Bool) (cap:Option Nat) (v:List Int) (i:Int):St:=
 aY f154.ntmps [(0,.c (.view nl (.ints .i64 v) v.length 1 cap)),(3,.c (.int .i64 i))] []
noncomputable def PH:St:=aY f154.ntmps [] []
noncomputable def PL (i:Int):St:=aY f154.ntmps [(2,.c (.int .i64 i))] []
section
variable (ct : CT) (nl : Option Bool) (cap : Option Nat) (v : List Int) (i : Int)
theorem S5:aC 0 (a8 f154 0) (aA f154 0) (aG tt ct [] 0 100 (a0 0 (a5 f154)) (qS nl cap v i) [(0,true),(0,true)])=
  some (.ret,(decide (i<v.length)&&(decide (0≤i)&&(decide (i<v.length)&&(decide (i.toNat<v.length)&&(v.getD i.toNat 0 !=0&&true))))),[],PL i):=by kernel_rfl
theorem S6:aC 0 (a8 f154 0) (aA f154 0) (aG tt ct [] 0 100 (a0 0 (a5 f154)) (qS nl cap v i) [(0,true),(0,false)])=
  some (.normal,(decide (i<v.length)&&(decide (0≤i)&&(decide (i<v.length)&&(decide (i.toNat<v.length)&&(!(v.getD i.toNat 0 !=0)&&true))))),[],qS nl cap v (IntKind.i64.wrap (i+1))):=by kernel_rfl
theorem S7:aC 0 (a8 f154 0) (aA f154 0) (aG tt ct [] 0 100 (a0 0 (a5 f154)) (qS nl cap v i) [(0,false)])=
  some (.exit 0,(!decide (i<v.length)&&true),[],PH):=by kernel_rfl
end
def qV:Option Nat→Ex
 |some _=> .ret
 |none=> .normal
noncomputable def XH:Option Nat→St
 |some j=>PL j
 |none=>PH
theorem a4T {ct:CT} (hct:bJ Tryz.prog ct) (nl:Option Bool) (cap:Option Nat) (v:List Int) (hl:v.length≤274877906944):
  aS Tryz.prog 0 (.block 0 (.loop (a0 0 (a5 f154)))) (qS nl cap v 0) fun e t=>e=qV (kB v)∧t=XH (kB v):=by
 refine aS.roundsR hT hct bK (m:=0) (id:=0) (body:=a0 0 (a5 f154)) (α:=Nat)
  (fun i=>i≤v.length∧fP v (v.length-i) i=kB v) (fun i=>qS nl cap v i) (fun i=>v.length-i) (a8 f154 0) (aA f154 0)
  (fun _=>qV (kB v)) (fun _=>XH (kB v)) (fun _=>[]) (fun _ _=>aI.nil) (fun i hx=> ?_) 0 ⟨by simp,rfl⟩
 obtain⟨h1,h3⟩:=hx
 by_cases hi:i<v.length
 ·have hk:v.length-i=(v.length-(i+1))+1:=by omega
  rw[hk]at h3
  simp only[fP]at h3
  by_cases hz:v.getD i 0=0
  ·rw[if_pos hz]at h3
   refine⟨_,_,_,_,_,_,S6 ct nl cap v i, ?_,by simp,.inl ⟨rfl,i+1,⟨by omega,h3⟩,by omega, ?_,rfl,rfl⟩⟩
   ·simp[-List.getD_eq_getElem?_getD,hi,hz]
   ·rw[aB (by omega) (by omega)];simp
  ·rw[if_neg hz]at h3
   refine⟨_,_,_,_,_,_,S5 ct nl cap v i, ?_,by simp,.inr (.inr ⟨by simp,by simp, ?_, ?_⟩)⟩
   ·simp[-List.getD_eq_getElem?_getD,hi,hz]
   ·rw[←h3];rfl
   ·rw[←h3];rfl
 ·have hz:v.length-i=0:=by omega
  rw[hz]at h3
  simp only[fP]at h3
  exact⟨_,_,_,_,_,_,S7 ct nl cap v i,by simp;omega,by simp,.inr (.inl ⟨rfl,by rw[←h3];rfl,by rw[←h3];rfl⟩)⟩
def AZ:aN:=fun args h=>
 match args,h with
 |[.c (.view nl (.ints .i64 v) len 1 cap)],[]=>some (.c (.int .i64 (b9 v)),[],[decide (v.length≤274877906944)])
 |_,_=>none
theorem a68 {ct:CT} (hct:bJ Tryz.prog ct):aP Tryz.prog 192 AZ:=by
 intro args h res h' o he ho
 unfold AZ at he
 split at he
 ·rename_i nl v len cap
  simp only[Option.some.injEq,Prod.mk.injEq]at he
  obtain⟨rfl,rfl,rfl⟩:=he
  have o1:v.length≤274877906944:=by simpa using ho
  refine bA.len ⟨f154,by kernel_rfl,by kernel_rfl,by kernel_rfl⟩ fun hlen=> ?_
  simp only[List.mem_cons,List.not_mem_nil,or_false,forall_eq,AV.lenOk,aF.lenOk,Con.size,Nat.mul_one]at hlen
  subst hlen
  have g:=a4T hct nl cap v o1
  unfold b9
  cases hx:kB v with
  |none=>
   rw[hx]at g
   exact cG hct (fn:=f154) (lc:=[(0,⟨a8 f154 0,qS nl cap v 0,.normal,PH⟩)]) (fuel:=100) (p:=[]) (o:=⟨_,_,true,[qS nl cap v 0=qS nl cap v 0]⟩)
    (by kernel_rfl) (by kernel_rfl) (by kernel_rfl) rfl (by simp) (fun cc hc=>aI.cons (c:=cc) (by cases hc;kernel_rfl) (by cases hc;exact g) aI.nil)
  |some j=>
   rw[hx]at g
   exact cG hct (fn:=f154) (lc:=[(0,⟨a8 f154 0,qS nl cap v 0,.ret,PL j⟩)]) (fuel:=100) (p:=[]) (o:=⟨_,_,true,[qS nl cap v 0=qS nl cap v 0]⟩)
    (by kernel_rfl) (by kernel_rfl) (by kernel_rfl) rfl (by simp) (fun cc hc=>aI.cons (c:=cc) (by cases hc;kernel_rfl) (by cases hc;exact g) aI.nil)
 ·cases he
end
section
def T6:List bD:=[⟨119,[],FU⟩,⟨218,[],GD⟩,⟨194,[],r7⟩,⟨192,[],AZ⟩]++T5
theorem e6:a6 Tryz.prog T6:=by
 refine a6.append ?_ e5
 intro e he
 simp only[List.mem_cons,List.not_mem_nil,or_false]at he
 rcases he with rfl|rfl|rfl|rfl
 ·exact a59 t5
 ·exact XD t5
 ·exact QV t5
 ·exact a68 t5
theorem t6:bJ Tryz.prog (a9 T6):=aM e6
def ES (v:List Int):Nat→Nat→Bool
 |0,_=>true
 |k+1,i=>fok (v.getD i 0)&&ES v k (i+1)
theorem DX (v:List Int): ∀k i,k=v.length-i→ES v k i=(v.drop i).all fok
 |0,i,h=>by
  rw[List.drop_eq_nil_of_le (by omega)];rfl
 |k+1,i,h=>by
  have hi:i<v.length:=by omega
  rw[List.drop_eq_getElem_cons hi]
  simp only[ES,List.all_cons]
  rw[DX v k (i+1) (by omega),List.getD_eq_getElem?_getD,List.getElem?_eq_getElem hi];rfl
noncomputable abbrev f60:=Tryz.f61
noncomputable def I60 (nl:Option Bool) (cap:Option Nat) (v:List Int) (i:Int):St:=
 aY f60.ntmps [(0,.c (.view nl (.ints .i64 v) v.length 1 cap)),(3,.c (.int .i64 i))] []
noncomputable def X60 (nl:Option Bool) (cap:Option Nat) (v:List Int):St:=aY f60.ntmps [(0,.c (.view nl (.ints .i64 v) v.length 1 cap))] []
noncomputable def Y60 (nl:Option Bool) (cap:Option Nat) (v:List Int):St:=aY f60.ntmps [(0,.c (.view nl (.ints .i64 v) v.length 1 cap)),(2,.c (.bool false))] []
section
variable (nl : Option Bool) (cap : Option Nat) (v : List Int) (i : Int)
theorem YV:aC 0 (a8 f60 0) (aA f60 0) (aG tt (a9 T6) [] 0 100 (a0 0 (a5 f60)) (I60 nl cap v i) [(0,true),(0,true)])=
  some (.ret,(decide (i<v.length)&&(decide (0≤i)&&(decide (i<v.length)&&(decide (i.toNat<v.length)&&(!fok (v.getD i.toNat 0)&&true))))),[],Y60 nl cap v):=by kernel_rfl
theorem YW:aC 0 (a8 f60 0) (aA f60 0) (aG tt (a9 T6) [] 0 100 (a0 0 (a5 f60)) (I60 nl cap v i) [(0,true),(0,false)])=
  some (.normal,(decide (i<v.length)&&(decide (0≤i)&&(decide (i<v.length)&&(decide (i.toNat<v.length)&&(!!fok (v.getD i.toNat 0)&&true))))),[],I60 nl cap v (IntKind.i64.wrap (i+1))):=by kernel_rfl
theorem YX:aC 0 (a8 f60 0) (aA f60 0) (aG tt (a9 T6) [] 0 100 (a0 0 (a5 f60)) (I60 nl cap v i) [(0,false)])=
  some (.exit 0,(!decide (i<v.length)&&true),[],X60 nl cap v):=by kernel_rfl
end
def e60:Bool→Ex
 |true=> .normal
 |false=> .ret
noncomputable def p60 (nl:Option Bool) (cap:Option Nat) (v:List Int):Bool→St
 |true=>X60 nl cap v
 |false=>Y60 nl cap v
theorem l60 (nl:Option Bool) (cap:Option Nat) (v:List Int) (hl:v.length≤274877906944):
  aS Tryz.prog 0 (.block 0 (.loop (a0 0 (a5 f60)))) (I60 nl cap v 0) fun e t=>e=e60 (a7 v)∧t=p60 nl cap v (a7 v):=by
 refine aS.roundsR hT t6 bK (m:=0) (id:=0) (body:=a0 0 (a5 f60)) (α:=Nat)
  (fun i=>i≤v.length∧ES v (v.length-i) i=a7 v) (fun i=>I60 nl cap v i) (fun i=>v.length-i) (a8 f60 0) (aA f60 0)
  (fun _=>e60 (a7 v)) (fun _=>p60 nl cap v (a7 v)) (fun _=>[]) (fun _ _=>aI.nil) (fun i hx=> ?_) 0 ⟨by simp,by rw[DX v _ _ (by simp)];rfl⟩
 obtain⟨h1,h3⟩:=hx
 by_cases hi:i<v.length
 ·have hk:v.length-i=(v.length-(i+1))+1:=by omega
  rw[hk]at h3
  simp only[ES]at h3
  cases hz:fok (v.getD i 0)with
  |true=>
   rw[hz,Bool.true_and]at h3
   refine⟨_,_,_,_,_,_,YW nl cap v i, ?_,by simp,.inl ⟨rfl,i+1,⟨by omega,h3⟩,by omega, ?_,rfl,rfl⟩⟩
   ·simp[-List.getD_eq_getElem?_getD,hi,hz]
   ·rw[aB (by omega) (by omega)];simp
  |false=>
   rw[hz,Bool.false_and]at h3
   refine⟨_,_,_,_,_,_,YV nl cap v i, ?_,by simp,.inr (.inr ⟨by simp,by simp, ?_, ?_⟩)⟩
   ·simp[-List.getD_eq_getElem?_getD,hi,hz]
   ·rw[←h3];rfl
   ·rw[←h3];rfl
 ·have hz:v.length-i=0:=by omega
  rw[hz]at h3
  simp only[ES]at h3
  exact⟨_,_,_,_,_,_,YX nl cap v i,by simp;omega,by simp,.inr (.inl ⟨rfl,by rw[←h3];rfl,by rw[←h3];rfl⟩)⟩
def vok (v:List Int):Bool:=a7 v&&decide ((v.length:Int)=4)
def GH:aN:=fun args h=>
 match args,h with
 |[.c (.view nl (.ints .i64 v) len 1 cap)],[]=>some (.c (.bool (vok v)),[],[decide (v.length≤274877906944)])
 |_,_=>none
theorem m60:aP Tryz.prog 61 GH:=by
 intro args h res h' o he ho
 unfold GH at he
 split at he
 ·rename_i nl v len cap
  simp only[Option.some.injEq,Prod.mk.injEq]at he
  obtain⟨rfl,rfl,rfl⟩:=he
  have o1:v.length≤274877906944:=by simpa using ho
  refine bA.len ⟨f60,by kernel_rfl,by kernel_rfl,by kernel_rfl⟩ fun hlen=> ?_
  simp only[List.mem_cons,List.not_mem_nil,or_false,forall_eq,AV.lenOk,aF.lenOk,Con.size,Nat.mul_one]at hlen
  subst hlen
  have g:=l60 nl cap v o1
  unfold vok
  cases hx:a7 v with
  |true=>
   rw[hx]at g
   have hb:(true&&decide ((v.length:Int)=4))=((v.length:Int)==4):=by
    rw[Bool.true_and];by_cases h:(v.length:Int)=4<;>simp[h]
   rw[hb]
   exact cG t6 (fn:=f60) (lc:=[(0,⟨a8 f60 0,I60 nl cap v 0,.normal,X60 nl cap v⟩)]) (fuel:=100) (p:=[]) (o:=⟨_,_,true,[I60 nl cap v 0=I60 nl cap v 0]⟩)
    (by kernel_rfl) (by kernel_rfl) (by kernel_rfl) rfl (by simp) (fun cc hc=>aI.cons (c:=cc) (by cases hc;kernel_rfl) (by cases hc;exact g) aI.nil)
  |false=>
   rw[hx]at g
   exact cG t6 (fn:=f60) (lc:=[(0,⟨a8 f60 0,I60 nl cap v 0,.ret,Y60 nl cap v⟩)]) (fuel:=100) (p:=[]) (o:=⟨_,_,true,[I60 nl cap v 0=I60 nl cap v 0]⟩)
    (by kernel_rfl) (by kernel_rfl) (by kernel_rfl) rfl (by simp) (fun cc hc=>aI.cons (c:=cc) (by cases hc;kernel_rfl) (by cases hc;exact g) aI.nil)
 ·cases he
end
section
def B5:aN:=fun args h=>
 match args,h with
 |[.c (.int .i64 n)],[]=>some (.c (.bool (!fok n)),[],[])
 |_,_=>none
theorem a60:aP Tryz.prog 168 B5:=by
 intro args h res h' o he ho
 unfold B5 at he
 split at he
 ·rename_i n
  simp only[Option.some.injEq,Prod.mk.injEq]at he
  obtain⟨rfl,rfl,rfl⟩:=he
  have e:aD tt (a9 T6) [] 100 Tryz.f168 [.c (.int .i64 n)] [] []=some ⟨.c (.bool (!fok n)),[],true,[]⟩:=by kernel_rfl
  exact mo t6 e rfl
 ·cases he
def T7:List bD:=[⟨61,[],GH⟩,⟨168,[],B5⟩]++T6
theorem e7:a6 Tryz.prog T7:=by
 refine a6.append ?_ e6
 intro e he
 simp only[List.mem_cons,List.not_mem_nil,or_false]at he
 rcases he with rfl|rfl
 ·exact m60
 ·exact a60
theorem t7:bJ Tryz.prog (a9 T7):=aM e7
def dA (q:Int→Bool) (v:List Int):Nat→Nat→Option Nat
 |0,_=>none
 |k+1,i=>bif q (v.getD i 0)then some i else dA q v k (i+1)
def dQ (q:Int→Bool) (v:List Int):Option Nat:=dA q v v.length 0
def cR (q:Int→Bool) (v:List Int):Int:=match dQ q v with|some j=>(j:Int)|none=> -1
noncomputable abbrev i7:=Tryz.f176
noncomputable def qR (nl:Option Bool) (cap:Option Nat) (v:List Int) (i:Int):St:=
 aY i7.ntmps [(0,.c (.view nl (.ints .i64 v) v.length 1 cap)),(1,.c (.fn 168 [])),(7,.c (.int .i64 v.length)),(8,.c (.int .i64 i))] []
noncomputable def PG:St:=aY i7.ntmps [] []
noncomputable def PJ (i:Int):St:=aY i7.ntmps [(4,.c (.int .i64 i))] []
section
variable (nl : Option Bool) (cap : Option Nat) (v : List Int) (i : Int)
theorem S0:aC 0 (a8 i7 0) (aA i7 0) (aG tt (a9 T7) [] 0 100 (a0 0 (a5 i7)) (qR nl cap v i) [(0,true),(0,true)])=
  some (.ret,(decide (i<v.length)&&(decide (0≤i)&&(decide (i<v.length)&&(decide (i.toNat<v.length)&&(!fok (v.getD i.toNat 0)&&true))))),[],PJ i):=by kernel_rfl
theorem S1:aC 0 (a8 i7 0) (aA i7 0) (aG tt (a9 T7) [] 0 100 (a0 0 (a5 i7)) (qR nl cap v i) [(0,true),(0,false)])=
  some (.normal,(decide (i<v.length)&&(decide (0≤i)&&(decide (i<v.length)&&(decide (i.toNat<v.length)&&(!!fok (v.getD i.toNat 0)&&true))))),[],qR nl cap v (IntKind.i64.wrap (i+1))):=by kernel_rfl
theorem S2:aC 0 (a8 i7 0) (aA i7 0) (aG tt (a9 T7) [] 0 100 (a0 0 (a5 i7)) (qR nl cap v i) [(0,false)])=
  some (.exit 0,(!decide (i<v.length)&&true),[],PG):=by kernel_rfl
end
noncomputable def XG:Option Nat→St
 |some j=>PJ j
 |none=>PG
theorem a4R (nl:Option Bool) (cap:Option Nat) (v:List Int) (hl:v.length≤274877906944):
  aS Tryz.prog 0 (.block 0 (.loop (a0 0 (a5 i7)))) (qR nl cap v 0) fun e t=>e=qV (dQ (fun x=> !fok x) v)∧t=XG (dQ (fun x=> !fok x) v):=by
 refine aS.roundsR hT t7 bK (m:=0) (id:=0) (body:=a0 0 (a5 i7)) (α:=Nat)
  (fun i=>i≤v.length∧dA (fun x=> !fok x) v (v.length-i) i=dQ (fun x=> !fok x) v) (fun i=>qR nl cap v i) (fun i=>v.length-i) (a8 i7 0) (aA i7 0)
  (fun _=>qV (dQ (fun x=> !fok x) v)) (fun _=>XG (dQ (fun x=> !fok x) v)) (fun _=>[]) (fun _ _=>aI.nil) (fun i hx=> ?_) 0 ⟨by simp,rfl⟩
 obtain⟨h1,h3⟩:=hx
 by_cases hi:i<v.length
 ·have hk:v.length-i=(v.length-(i+1))+1:=by omega
  rw[hk]at h3
  simp only[dA]at h3
  cases hz:fok (v.getD i 0)with
  |true=>
   rw[hz]at h3
   refine⟨_,_,_,_,_,_,S1 nl cap v i, ?_,by simp,.inl ⟨rfl,i+1,⟨by omega,by simpa using h3⟩,by omega, ?_,rfl,rfl⟩⟩
   ·simp[-List.getD_eq_getElem?_getD,hi,hz]
   ·rw[aB (by omega) (by omega)];simp
  |false=>
   rw[hz]at h3
   simp only[Bool.not_false,cond_true]at h3
   refine⟨_,_,_,_,_,_,S0 nl cap v i, ?_,by simp,.inr (.inr ⟨by simp,by simp, ?_, ?_⟩)⟩
   ·simp[-List.getD_eq_getElem?_getD,hi,hz]
   ·rw[←h3];rfl
   ·rw[←h3];rfl
 ·have hz:v.length-i=0:=by omega
  rw[hz]at h3
  simp only[dA]at h3
  exact⟨_,_,_,_,_,_,S2 nl cap v i,by simp;omega,by simp,.inr (.inl ⟨rfl,by rw[←h3];rfl,by rw[←h3];rfl⟩)⟩
def wD:aN:=fun args h=>
 match args,h with
 |[.c (.view nl (.ints .i64 v) len 1 cap),.c (.fn 168 [])],[]=>some (.c (.int .i64 (cR (fun x=> !fok x) v)),[],[decide (v.length≤274877906944)])
 |_,_=>none
theorem a61:aP Tryz.prog 176 wD:=by
 intro args h res h' o he ho
 unfold wD at he
 split at he
 ·rename_i nl v len cap
  simp only[Option.some.injEq,Prod.mk.injEq]at he
  obtain⟨rfl,rfl,rfl⟩:=he
  have o1:v.length≤274877906944:=by simpa using ho
  refine bA.len ⟨i7,by kernel_rfl,by kernel_rfl,by kernel_rfl⟩ fun hlen=> ?_
  simp only[List.mem_cons,List.not_mem_nil,or_false,forall_eq_or_imp,forall_eq,AV.lenOk,aF.lenOk,Con.size,Nat.mul_one]at hlen
  obtain⟨rfl,-⟩:=hlen
  have g:=a4R nl cap v o1
  unfold cR
  cases hx:dQ (fun x=> !fok x) v with
  |none=>
   rw[hx]at g
   exact cG t7 (fn:=i7) (lc:=[(0,⟨a8 i7 0,qR nl cap v 0,.normal,PG⟩)]) (fuel:=100) (p:=[]) (o:=⟨_,_,true,[qR nl cap v 0=qR nl cap v 0]⟩)
    (by kernel_rfl) (by kernel_rfl) (by kernel_rfl) rfl (by simp) (fun cc hc=>aI.cons (c:=cc) (by cases hc;kernel_rfl) (by cases hc;exact g) aI.nil)
  |some j=>
   rw[hx]at g
   exact cG t7 (fn:=i7) (lc:=[(0,⟨a8 i7 0,qR nl cap v 0,.ret,PJ j⟩)]) (fuel:=100) (p:=[]) (o:=⟨_,_,true,[qR nl cap v 0=qR nl cap v 0]⟩)
    (by kernel_rfl) (by kernel_rfl) (by kernel_rfl) rfl (by simp) (fun cc hc=>aI.cons (c:=cc) (by cases hc;kernel_rfl) (by cases hc;exact g) aI.nil)
 ·cases he
end
section
def T8:List bD:=[⟨176,[],wD⟩]++T7
theorem e8:a6 Tryz.prog T8:=by
 refine a6.append ?_ e7
 intro e he
 simp only[List.mem_cons,List.not_mem_nil,or_false]at he
 subst he;exact a61
theorem t8:bJ Tryz.prog (a9 T8):=aM e8
theorem zC (q:Int→Bool) (v:List Int): ∀k i,k=v.length-i→(match dA q v k i with|some j=>true|none=>false)=(v.drop i).any q
 |0,i,h=>by rw[List.drop_eq_nil_of_le (by omega)];rfl
 |k+1,i,h=>by
  have hi:i<v.length:=by omega
  rw[List.drop_eq_getElem_cons hi]
  simp only[dA,List.any_cons]
  have e:v.getD i 0=v[i]:=by rw[List.getD_eq_getElem?_getD,List.getElem?_eq_getElem hi];rfl
  rw[e]
  cases q v[i]with
  |true=>rfl
  |false=>rw[cond_false,zC q v k (i+1) (by omega),Bool.false_or]
theorem LL (v:List Int):decide (cR (fun x=> !fok x) v≥0)= !a7 v:=by
 have h:=zC (fun x=> !fok x) v v.length 0 (by simp)
 have e:(v.drop 0).any (fun x=> !fok x)= !a7 v:=by
  rw[List.drop_zero,a7,List.any_eq_not_all_not];simp
 rw[e]at h
 rw[←h]
 unfold cR dQ
 cases dA (fun x=> !fok x) v v.length 0<;>simp
def rP:aN:=fun args h=>
 match args,h with
 |[.c (.view nl (.ints .i64 v) len 1 cap),.c (.fn 168 [])],[]=>some (.c (.bool (!a7 v)),[],[decide (v.length≤274877906944)])
 |_,_=>none
theorem a5J:aP Tryz.prog 133 rP:=by
 intro args h res h' o he ho
 unfold rP at he
 split at he
 ·rename_i nl v len cap
  simp only[Option.some.injEq,Prod.mk.injEq]at he
  obtain⟨rfl,rfl,rfl⟩:=he
  have e:aD tt (a9 T8) [] 100 Tryz.f133 [.c (.view nl (.ints .i64 v) len 1 cap),.c (.fn 168 [])] [] []=
    some ⟨.c (.bool (decide (cR (fun x=> !fok x) v≥0))),[],decide (v.length≤274877906944)&&true,[]⟩:=by kernel_rfl
  rw[LL]at e
  exact mo t8 e (by simpa using ho)
 ·cases he
def T9:List bD:=[⟨133,[],rP⟩]++T8
theorem e9:a6 Tryz.prog T9:=by
 refine a6.append ?_ e8
 intro e he
 simp only[List.mem_cons,List.not_mem_nil,or_false]at he
 subst he;exact a5J
theorem t9:bJ Tryz.prog (a9 T9):=aM e9
def aE (v:List Int) (n:Int):Bool:=a7 v&&((v.length:Int)==n)
def FV:aN:=fun args h=>
 match args,h with
 |[.c (.view nl (.ints .i64 v) len 1 cap),.c (.int .i64 n)],[]=>some (.c (.bool (aE v n)),[],[decide (v.length≤274877906944)])
 |_,_=>none
theorem a5G:aP Tryz.prog 124 FV:=by
 intro args h res h' o he ho
 unfold FV at he
 split at he
 ·rename_i nl v len cap n
  simp only[Option.some.injEq,Prod.mk.injEq]at he
  obtain⟨rfl,rfl,rfl⟩:=he
  have o1:v.length≤274877906944:=by simpa using ho
  refine bA.len ⟨Tryz.f124,by kernel_rfl,by kernel_rfl,by kernel_rfl⟩ fun hlen=> ?_
  simp only[List.mem_cons,List.not_mem_nil,or_false,forall_eq_or_imp,forall_eq,AV.lenOk,aF.lenOk,Con.size,Nat.mul_one]at hlen
  obtain⟨rfl,-⟩:=hlen
  cases hc:((v.length:Int)==n)with
  |true=>
   have e:aD tt (a9 T9) [] 100 Tryz.f124 [.c (.view nl (.ints .i64 v) v.length 1 cap),.c (.int .i64 n)] [] [(0,true)]=
     some ⟨.c (.bool (bif (v.length:Int)==n then !!a7 v else false)),[],((v.length:Int)==n)&&(((v.length:Int)==n)&&(decide (v.length≤274877906944)&&(((v.length:Int)==n)&&true))),[]⟩:=by kernel_rfl
   have hr:(bif (v.length:Int)==n then !!a7 v else false)=aE v n:=by simp[aE,hc]
   rw[hr]at e
   exact mo t9 e (by simp[hc,o1])
  |false=>
   have e:aD tt (a9 T9) [] 100 Tryz.f124 [.c (.view nl (.ints .i64 v) v.length 1 cap),.c (.int .i64 n)] [] [(0,false)]=
     some ⟨.c (.bool false),[], !((v.length:Int)==n)&&(!((v.length:Int)==n)&&(!((v.length:Int)==n)&&(!((v.length:Int)==n)&&true))),[]⟩:=by kernel_rfl
   have hr:false=aE v n:=by simp[aE,hc]
   rw[hr]at e
   exact mo t9 e (by simp[hc])
 ·cases he
end
section
def T10:List bD:=[⟨124,[],FV⟩]++T9
theorem e10:a6 Tryz.prog T10:=by
 refine a6.append ?_ e9
 intro e he
 simp only[List.mem_cons,List.not_mem_nil,or_false]at he
 subst he;exact a5G
theorem t10:bJ Tryz.prog (a9 T10):=aM e10
def ifI (b:Bool) (n:Int):Int:=bif b then n else 0
def TC (v:List Int) (b:Bool):AV:=
 .tup [.agg [.int .i64 (ifI b (v.getD 0 0)),.int .i64 (ifI b (v.getD 1 0)),.int .i64 (ifI b (v.getD 2 0)),.int .i64 (ifI b (v.getD 3 0))],.c (.bool b)]
def GG:aN:=fun args h=>
 match args,h with
 |[.c (.view nl (.ints .i64 v) len 1 cap)],[]=>some (TC v (aE v 4),[],[decide (v.length≤274877906944)])
 |_,_=>none
theorem a4D {v:List Int} (h:aE v 4=true): ∃a b c d,v=[a,b,c,d]:=by
 simp only[aE,Bool.and_eq_true,rpS,beq_iff_eq]at h
 have h4:v.length=4:=by omega
 match v,h4 with
 |[a,b,c,d],_=>exact⟨a,b,c,d,rfl⟩
theorem m67:aP Tryz.prog 74 GG:=by
 intro args h res h' o he ho
 unfold GG at he
 split at he
 ·rename_i nl v len cap
  simp only[Option.some.injEq,Prod.mk.injEq]at he
  obtain⟨rfl,rfl,rfl⟩:=he
  have o1:v.length≤274877906944:=by simpa using ho
  refine bA.len ⟨Tryz.f74,by kernel_rfl,by kernel_rfl,by kernel_rfl⟩ fun hlen=> ?_
  simp only[List.mem_cons,List.not_mem_nil,or_false,forall_eq,AV.lenOk,aF.lenOk,Con.size,Nat.mul_one]at hlen
  subst hlen
  cases hc:aE v 4 with
  |true=>
   obtain⟨a,b,c,d,rfl⟩:=a4D hc
   have e:aD tt (a9 T10) [] 100 Tryz.f74 [.c (.view nl (.ints .i64 [a,b,c,d]) [a,b,c,d].length 1 cap)] [] [(0,false)]=
     some ⟨TC [a,b,c,d] true,[], !!aE [a,b,c,d] 4&&true,[]⟩:=by kernel_rfl
   exact mo t10 e (by simp[hc])
  |false=>
   have e:aD tt (a9 T10) [] 100 Tryz.f74 [.c (.view nl (.ints .i64 v) v.length 1 cap)] [] [(0,true)]=
     some ⟨TC v false,[],decide (v.length≤274877906944)&&(!aE v 4&&true),[]⟩:=by kernel_rfl
   exact mo t10 e (by simp[hc,o1])
 ·cases he
def wS:aN:=fun args h=>
 match args,h with
 |[.c (.view nl (.ints .i64 v) len 1 cap)],[]=>some (.c (.bool (aE v 4)),[],[decide (v.length≤274877906944)])
 |_,_=>none
theorem m91:aP Tryz.prog 68 wS:=by
 intro args h res h' o he ho
 unfold wS at he
 split at he
 ·rename_i nl v len cap
  simp only[Option.some.injEq,Prod.mk.injEq]at he
  obtain⟨rfl,rfl,rfl⟩:=he
  have e:aD tt (a9 T10) [] 100 Tryz.f68 [.c (.view nl (.ints .i64 v) len 1 cap)] [] []=some ⟨.c (.bool (aE v 4)),[],decide (v.length≤274877906944)&&true,[]⟩:=by kernel_rfl
  exact mo t10 e (by simpa using ho)
 ·cases he
end
section
def T11:List bD:=[⟨74,[],GG⟩,⟨68,[],wS⟩]++T10
theorem e11:a6 Tryz.prog T11:=by
 refine a6.append ?_ e10
 intro e he
 simp only[List.mem_cons,List.not_mem_nil,or_false]at he
 rcases he with rfl|rfl
 ·exact m67
 ·exact m91
theorem t11:bJ Tryz.prog (a9 T11):=aM e11
def c8 (k:Int) (v:List Int) (j:Int):Int:=
 C2 ((aH k j).getD 0 0) ((aH k j).getD 1 0) ((aH k j).getD 2 0) ((aH k j).getD 3 0) (v.getD 0 0) (v.getD 1 0) (v.getD 2 0) (v.getD 3 0)
def fT (k:Int) (v:List Int):List Int:=[c8 k v 0,c8 k v 1,c8 k v 2,c8 k v 3,c8 k v 4,c8 k v 5,c8 k v 6,c8 k v 7]
def FW:aN:=fun args h=>
 match args,h with
 |[.c (.int .i64 k),.agg [.int .i64 a,.int .i64 b,.int .i64 c,.int .i64 d]],[]=>some (.c (.sl 0 0 8 1 none),[.live (.ints .i64 (fT k [a,b,c,d]))],[bet k 1 2,fok a,fok b,fok c,fok d])
 |_,_=>none
theorem two {k:Int} (h:bet k 1 2=true):k=1∨k=2:=by
 simp only[bet,Bool.and_eq_true,rpS,decide_eq_true_eq]at h;omega
theorem m74:aP Tryz.prog 76 FW:=by
 intro args h res h' o he ho
 unfold FW at he
 split at he
 ·rename_i k a b c d
  simp only[Option.some.injEq,Prod.mk.injEq]at he
  obtain⟨rfl,rfl,rfl⟩:=he
  simp only[List.mem_cons,List.not_mem_nil,or_false,forall_eq_or_imp,forall_eq]at ho
  rcases two ho.1 with rfl|rfl
  ·skip
   have e:aD tt (a9 T11) [] 1000 Tryz.f76 [.c (.int .i64 1),.agg [.int .i64 a,.int .i64 b,.int .i64 c,.int .i64 d]] [] []=
     some ⟨.c (.sl 0 0 8 1 none),[.live (.ints .i64 (fT 1 [a,b,c,d]))],(fok a&&(fok b&&(fok c&&(fok d&&(fok a&&(fok b&&(fok c&&(fok d&&(fok a&&(fok b&&(fok c&&(fok d&&(fok a&&(fok b&&(fok c&&(fok d&&(fok a&&(fok b&&(fok c&&(fok d&&(fok a&&(fok b&&(fok c&&(fok d&&(fok a&&(fok b&&(fok c&&(fok d&&(fok a&&(fok b&&(fok c&&(fok d&&true)))))))))))))))))))))))))))))))),[]⟩:=by kernel_rfl
   exact mo t11 e (by simp[ho])
  ·skip
   have e:aD tt (a9 T11) [] 1000 Tryz.f76 [.c (.int .i64 2),.agg [.int .i64 a,.int .i64 b,.int .i64 c,.int .i64 d]] [] []=
     some ⟨.c (.sl 0 0 8 1 none),[.live (.ints .i64 (fT 2 [a,b,c,d]))],(fok a&&(fok b&&(fok c&&(fok d&&(fok a&&(fok b&&(fok c&&(fok d&&(fok a&&(fok b&&(fok c&&(fok d&&(fok a&&(fok b&&(fok c&&(fok d&&(fok a&&(fok b&&(fok c&&(fok d&&(fok a&&(fok b&&(fok c&&(fok d&&(fok a&&(fok b&&(fok c&&(fok d&&(fok a&&(fok b&&(fok c&&(fok d&&true)))))))))))))))))))))))))))))))),[]⟩:=by kernel_rfl
   exact mo t11 e (by simp[ho])
 ·cases he
end
section
def P7:aN:=fun args h=>
 match args,h with
 |[.c (.int .i64 n)],[]=>some (.c (.bool (n !=0)),[],[])
 |_,_=>none
theorem a6R:aP Tryz.prog 216 P7:=by
 intro args h res h' o he ho
 unfold P7 at he
 split at he
 ·rename_i n
  simp only[Option.some.injEq,Prod.mk.injEq]at he
  obtain⟨rfl,rfl,rfl⟩:=he
  have e:aD tt (a9 T11) [] 100 Tryz.f216 [.c (.int .i64 n)] [] []=some ⟨.c (.bool (n !=0)),[],true,[]⟩:=by kernel_rfl
  exact mo t11 e rfl
 ·cases he
def rU:aN:=fun args h=>
 match args,h with
 |[.agg [.int .i64 a,.int .i64 b,.int .i64 c,.int .i64 d],.agg [.int .i64 x,.int .i64 y,.int .i64 z,.int .i64 t]],[]=>
  some (.agg [.int .i64 ((a+x*30%31)%31),.int .i64 ((b+y*30%31)%31),.int .i64 ((c+z*30%31)%31),.int .i64 ((d+t*30%31)%31)],[],[fok a,fok x,fok b,fok y,fok c,fok z,fok d,fok t])
 |_,_=>none
def T12:List bD:=[⟨76,[],FW⟩,⟨216,[],P7⟩]++T11
theorem e12:a6 Tryz.prog T12:=by
 refine a6.append ?_ e11
 intro e he
 simp only[List.mem_cons,List.not_mem_nil,or_false]at he
 rcases he with rfl|rfl
 ·exact m74
 ·exact a6R
theorem t12:bJ Tryz.prog (a9 T12):=aM e12
theorem a6G:aP Tryz.prog 186 rU:=by
 intro args h res h' o he ho
 unfold rU at he
 split at he
 ·rename_i a b c d x y z t
  simp only[Option.some.injEq,Prod.mk.injEq]at he
  obtain⟨rfl,rfl,rfl⟩:=he
  have e:aD tt (a9 T12) [] 100 Tryz.f186 [.agg [.int .i64 a,.int .i64 b,.int .i64 c,.int .i64 d],.agg [.int .i64 x,.int .i64 y,.int .i64 z,.int .i64 t]] [] []=
   some ⟨.agg [.int .i64 ((a+x*30%31)%31),.int .i64 ((b+y*30%31)%31),.int .i64 ((c+z*30%31)%31),.int .i64 ((d+t*30%31)%31)],[],
    (fok x&&(fok y&&(fok z&&(fok t&&(fok a&&(fok (x*30%31)&&(fok b&&(fok (y*30%31)&&(fok c&&(fok (z*30%31)&&(fok d&&(fok (t*30%31)&&true)))))))))))),[]⟩:=by kernel_rfl
  simp only[List.mem_cons,List.not_mem_nil,or_false,forall_eq_or_imp,forall_eq]at ho
  exact mo t12 e (by simp[ho,bY])
 ·cases he
end
end Go.Proofs.YthapjdpkelihiaaGreat.Am
