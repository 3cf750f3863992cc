/- DERIVED. Part 2 of the proof: Am19, Am20, Am21, Am22, Am23, Am24, Am25, Am26, Tab, B0, C1, C2, C3, C4, C5, C6, C7, C8, C9, C10, C11, C12, C13, C14, C15. No statement of the program is proved here. -/
import Derived.Test.YthapjdpkelihiaaGreatX01
import Derived.Test.YthapjdpkelihiaaGreatProg
set_option linter.unusedSimpArgs false
set_option linter.unusedVariables false
set_option linter.unusedSectionVars false
section
namespace Go.Proofs.YthapjdpkelihiaaGreat.Am
variable {X : Nat → Prop}
def blocks:Code→List (Nat×Code)
 |.block id c=>(id,c)::blocks c
 |.seq a b=>blocks a++blocks b
 |.cond _ a b=>blocks a++blocks b
 |.loop c=>blocks c
 |_=>[]
def LcOk (P:Program) (m:Nat) (lc:List (Nat×LC)) (c:Code):Prop:=
 ∀q∈blocks c,∀x,findLC lc q.1=some x→Good P m (.block q.1 q.2) x.pre fun e s=>e=x.ex∧s=x.post
section
variable {P : Program} {tt : Tab} (hT : TTok P tt) {ct : CT} (hct : CtOk P ct) (hmix : P.follows .mixedOrders = true)
theorem rounds_mono {c:Code} {Q Q':Exit→Act→World→Prop} (h: ∀e a w,Q e a w→Q' e a w): ∀ {n:Nat} {a:Act} {w:World},Code.rounds P c Q n a w→Code.rounds P c Q' n a w
 |0,_,_,hr=>hr
 |n+1,a,w,hr=>by
  rw[rounds_succ]at hr⊢
  refine wp_mono hr fun e a w he=> ?_
  cases e with
  |normal=>exact rounds_mono h he
  |exit id=>exact h _ _ _ he
  |goto l=>exact h _ _ _ he
  |ret=>exact h _ _ _ he
  |panic c=>exact h _ _ _ he
  |outgrown=>exact h _ _ _ he
theorem post_cases {w0:World} {ρ0:Rho} {Q:Ex→St→Prop} {K:Act→World→Prop} {Q':Exit→Act→World→Prop} (hn: ∀s ρ a w,Q .normal s→Rel X w0 ρ0 s ρ a w→K a w)
  (he: ∀x s ρ a w,x≠ .normal→Q x s→Rel X w0 ρ0 s ρ a w→Q' (toExit x) a w): ∀e a w,Post X w0 ρ0 Q e a w→Exit.then K Q' e a w:=by
 rintro e a w ⟨x,s,ρ,rfl,h1,h2⟩
 cases x with
 |normal=>exact hn s ρ a w h1 h2
 |exit id=>exact he (.exit id) s ρ a w (by simp) h1 h2
 |ret=>exact he .ret s ρ a w (by simp) h1 h2
include hT hct hmix in
theorem evalC_sound {m:Nat} {lc:List (Nat×LC)}: ∀(n:Nat) {c:Code} {s:St} {p:Path} {o:Out},evalC tt ct lc m n c s p=some o→(∀b∈o.obl,b=true)→(∀q∈o.eqs,q)→LcOk P m lc c→
  Good P m c s (fun e t=>e=o.ex∧t=o.st)∧ ∀body,c=.loop body→ ∀ ⦃X:Nat→Prop⦄ ⦃w0:World⦄ ⦃ρ0 ρ:Rho⦄ ⦃a:Act⦄ ⦃w:World⦄,(∀k,m≤k→ρ0 k=.unborn)→Rel X w0 ρ0 s ρ a w→Code.rounds P body (Post X w0 ρ0 fun e t=>e=o.ex∧t=o.st) n a w:=by
 intro n
 induction n with
 |zero=>intro c s p o h;simp[evalC]at h
 |succ n ih=>
  intro c s p o h ho hq hlc
  cases c with
  |skip=>
   simp only[evalC,Option.some.injEq]at h;subst h
   exact⟨fun _ _ _ _ _ _ h0 r=>wp_skip ⟨.normal,s,_,rfl,⟨rfl,rfl⟩,r⟩,fun _ h=>by cases h⟩
  |label l=>
   simp only[evalC,Option.some.injEq]at h;subst h
   exact⟨fun _ _ _ _ _ _ h0 r=>wp_label ⟨.normal,s,_,rfl,⟨rfl,rfl⟩,r⟩,fun _ h=>by cases h⟩
  |ret=>
   simp only[evalC,Option.some.injEq]at h;subst h
   exact⟨fun _ _ _ _ _ _ h0 r=>wp_ret ⟨.ret,s,_,rfl,⟨rfl,rfl⟩,r⟩,fun _ h=>by cases h⟩
  |exit id=>
   simp only[evalC,Option.some.injEq]at h;subst h
   exact⟨fun _ _ _ _ _ _ h0 r=>wp_exit ⟨.exit id,s,_,rfl,⟨rfl,rfl⟩,r⟩,fun _ h=>by cases h⟩
  |region id ops draw=>
   simp only[evalC]at h
   split at h
   ·cases h
   ·rename_i rs s' p' b hrun
    cases hd:(!draw||orderOk ops rs)with
    |false=>rw[hd]at h;cases h
    |true=>
     rw[hd]at h
     simp only[cond_true,Option.some.injEq]at h;subst h
     exact⟨region_sound hT hct hmix hrun ho hd,fun _ h=>by cases h⟩
  |seq x y=>
   refine⟨?_,fun _ h=>by cases h⟩
   simp only[evalC]at h
   have hlx:LcOk P m lc x:=fun q hq=>hlc q (List.mem_append_left _ hq)
   have hly:LcOk P m lc y:=fun q hq=>hlc q (List.mem_append_right _ hq)
   split at h
   ·rename_i s1 p1 o1 q1 h1
    split at h
    ·rename_i e2 s2 p2 o2 q2 h2
     simp only[Option.some.injEq]at h;subst h
     have g1:=(ih h1 (fun b hb=>ho b (List.mem_append_left _ hb)) (fun q hq'=>hq q (List.mem_append_left _ hq')) hlx).1
     have g2:=(ih h2 (fun b hb=>ho b (List.mem_append_right _ hb)) (fun q hq'=>hq q (List.mem_append_right _ hq')) hly).1
     intro X w0 ρ0 ρ a w h0 r
     refine wp_seq (wp_mono (g1 h0 r) (post_cases (fun t ρ a w ht r=> ?_) (fun e t ρ a w hne ht r=> ?_)))
     ·obtain⟨_,rfl⟩:=ht;exact g2 h0 r
     ·exact absurd ht.1 hne
    ·cases h
   ·rename_i r1 hne
    cases hr:evalC tt ct lc m n x s p with
    |none=>rw[hr]at h;cases h
    |some o1=>
     rw[hr]at h
     simp only[Option.some.injEq]at h;subst h
     have g1:=(ih hr ho hq hlx).1
     intro X w0 ρ0 ρ a w h0 r
     have hnn:o1.ex≠ .normal:=fun e=>by
      obtain⟨ex,st,pa,ob,eq⟩:=o1
      dsimp only at e;subst e
      exact hne _ _ _ _ hr
     refine wp_seq (wp_mono (g1 h0 r) (post_cases (fun t ρ a w ht r=>absurd ht.1.symm hnn) (fun e t ρ a w hne ht r=>⟨e,t,ρ,rfl,ht,r⟩)))
  |cond x a b=>
   refine⟨?_,fun _ h=>by cases h⟩
   simp only[evalC]at h
   split at h
   ·cases h
   ·rename_i t p1 hp
    split at h
    ·rename_i v hv
     split at h
     ·rename_i e s1 p2 o1 q1 h1
      simp only[Option.some.injEq]at h;subst h
      have hb:(bif t then v else !v)=true:=ho _ List.mem_cons_self
      have htv:v=t:=by cases t<;>cases v<;>simp at hb⊢
      subst htv
      have hl1:LcOk P m lc (bif v then a else b):=fun q hq=>hlc q (by cases v with
       |false=>exact List.mem_append_right _ hq
       |true=>exact List.mem_append_left _ hq)
      have g1:=(ih h1 (fun b hb=>ho b (List.mem_cons_of_mem _ hb)) hq hl1).1
      intro X w0 ρ0 ρ a w h0 r
      have hev:=r.ev x
      rw[hv]at hev
      have hx:=avr_bool hev
      refine wp_cond hx ?_
      have:=g1 h0 r
      cases v<;>exact this
     ·cases h
    ·cases h
  |block id body=>
   refine⟨?_,fun _ h=>by cases h⟩
   simp only[evalC]at h
   split at h
   ·rename_i x hx
    simp only[Option.some.injEq]at h;subst h
    have h3:fit m x.live s=x.pre:=hq _ (by simp)
    have g:=hlc (id,body) List.mem_cons_self x hx
    rw[←h3]at g
    exact(Weak.fit m x.live s).good g
   ·have hlb:LcOk P m lc body:=fun q hq=>hlc q (List.mem_cons_of_mem _ hq)
    split at h
    ·rename_i k s1 p1 o1 q1 h1
     simp only[Option.some.injEq]at h;subst h
     have g1:=(ih h1 ho hq hlb).1
     intro X w0 ρ0 ρ a w h0 r
     refine wp_block (wp_mono (g1 h0 r) ?_)
     rintro e a w ⟨x,t,ρ,rfl,⟨hx,rfl⟩,r'⟩
     dsimp only at hx;subst hx
     simp only[toExit,Exit.inBlock]
     split
     ·exact⟨.normal,t,ρ,rfl,⟨rfl,rfl⟩,r'⟩
     ·exact⟨.exit k,t,ρ,rfl,⟨rfl,rfl⟩,r'⟩
    ·rename_i r1 hne
     have g1:=(ih h ho hq hlb).1
     intro X w0 ρ0 ρ a w h0 r
     refine wp_block (wp_mono (g1 h0 r) ?_)
     rintro e a w ⟨x,t,ρ,rfl,⟨hx,rfl⟩,r'⟩
     cases x with
     |normal=>exact⟨.normal,_,ρ,rfl,⟨hx,rfl⟩,r'⟩
     |ret=>exact⟨.ret,_,ρ,rfl,⟨hx,rfl⟩,r'⟩
     |exit k=>
      exfalso
      obtain⟨ex,st,pa,ob,eq⟩:=o
      dsimp only at hx;subst hx
      exact hne _ _ _ _ _ h
  |loop body=>
   simp only[evalC]at h
   have hlb:LcOk P m lc body:=fun q hq=>hlc q hq
   have hr: ∀ ⦃X:Nat→Prop⦄ ⦃w0:World⦄ ⦃ρ0 ρ:Rho⦄ ⦃a:Act⦄ ⦃w:World⦄,(∀k,m≤k→ρ0 k=.unborn)→Rel X w0 ρ0 s ρ a w→Code.rounds P body (Post X w0 ρ0 fun e t=>e=o.ex∧t=o.st) (n+1) a w:=by
    split at h
    ·rename_i s1 p1 o1 q1 h1
     split at h
     ·rename_i e2 s2 p2 o2 q2 h2
      simp only[Option.some.injEq]at h;subst h
      have g1:=(ih h1 (fun b hb=>ho b (List.mem_append_left _ hb)) (fun q hq'=>hq q (List.mem_append_left _ hq')) hlb).1
      have g2:=(ih h2 (fun b hb=>ho b (List.mem_append_right _ hb)) (fun q hq'=>hq q (List.mem_append_right _ hq')) hlc).2
      intro X w0 ρ0 ρ a w h0 r
      rw[rounds_succ]
      refine wp_mono (g1 h0 r) (post_cases (fun t ρ a w ht r=> ?_) (fun e t ρ a w hne ht r=>absurd ht.1 hne))
      obtain⟨_,rfl⟩:=ht
      exact g2 body rfl h0 r
     ·cases h
    ·rename_i r1 hne
     have g1:=(ih h ho hq hlb).1
     intro X w0 ρ0 ρ a w h0 r
     have hnn:o.ex≠ .normal:=fun e=>by
      obtain⟨ex,st,pa,ob,eq⟩:=o
      dsimp only at e;subst e
      exact hne _ _ _ _ h
     rw[rounds_succ]
     exact wp_mono (g1 h0 r) (post_cases (fun t ρ a w ht r=>absurd ht.1.symm hnn) (fun e t ρ a w hne ht r=>⟨e,t,ρ,rfl,ht,r⟩))
   exact⟨fun _ _ _ _ _ _ h0 r=>wp_loop_rounds (n+1) (hr h0 r),fun b hb=>by cases hb;exact hr⟩
  |scope c=>simp[evalC]at h
  |goto l=>simp[evalC]at h
  |rangeFunc f ps x y=>simp[evalC]at h
  |refuse w=>simp[evalC]at h
theorem Good.loop {α:Type} {m:Nat} {body:Code} (I:α→St) (μ:α→Nat) (Q:α→Ex→St→Prop)
  (h: ∀x,Good P m body (I x) fun e s=>(e=.normal∧ ∃y,μ y<μ x∧Weak m s (I y)∧ ∀e t,Q y e t→Q x e t)∨(e≠ .normal∧Q x e s)): ∀x,Good P m (.loop body) (I x) (Q x):=by
 intro x X w0 ρ0 ρ a w h0 r
 have key: ∀n x ρ a w,μ x<n→Rel X w0 ρ0 (I x) ρ a w→Code.rounds P body (Post X w0 ρ0 (Q x)) n a w:=by
  intro n
  induction n with
  |zero=>intro x ρ a w hl;omega
  |succ n ih=>
   intro x ρ a w hl r
   rw[rounds_succ]
   refine wp_mono (h x h0 r) (post_cases (fun t ρ a w ht r=> ?_) (fun e t ρ a w hne ht r=> ?_))
   ·rcases ht with⟨_,y,hy,hw,hq⟩|⟨hne,_⟩
    ·obtain⟨ρ',r'⟩:=hw h0 r
     exact rounds_mono (Post.mono hq) (ih y ρ' a w (by omega) r')
    ·exact absurd rfl hne
   ·rcases ht with⟨he,_⟩|⟨_,hq⟩
    ·exact absurd he hne
    ·exact⟨e,t,ρ,rfl,hq,r⟩
 exact wp_loop_rounds (μ x+1) (key _ x ρ a w (Nat.lt_succ_self _) r)
theorem Good.block {m id:Nat} {c:Code} {s:St} {Q:Ex→St→Prop} (g:Good P m c s fun e t=>(e=.exit id∧Q .normal t)∨(e≠ .exit id∧Q e t)):Good P m (.block id c) s Q:=by
 intro X w0 ρ0 ρ a w h0 r
 refine wp_block (wp_mono (g h0 r) ?_)
 rintro e a w ⟨x,t,ρ,rfl,hx,r'⟩
 rcases hx with⟨rfl,hq⟩|⟨hne,hq⟩
 ·simp only[toExit,Exit.inBlock,if_true]
  exact⟨.normal,t,ρ,rfl,hq,r'⟩
 ·cases x with
  |normal=>exact⟨.normal,t,ρ,rfl,hq,r'⟩
  |ret=>exact⟨.ret,t,ρ,rfl,hq,r'⟩
  |exit k=>
   simp only[toExit,Exit.inBlock]
   rw[if_neg (fun e=>hne (by rw[e]))]
   exact⟨.exit k,t,ρ,rfl,hq,r'⟩
theorem Good.weaken {m:Nat} {c:Code} {s:St} {Q Q':Ex→St→Prop} (g:Good P m c s Q) (h: ∀e t,Q e t→ ∃t',Weak m t t'∧Q' e t'):Good P m c s Q':=fun _ _ _ _ _ _ h0 r=>
 wp_mono (g h0 r) fun _ _ _ ⟨x,t,ρ,h1,h2,h3⟩=>by
  obtain⟨t',hw,hq⟩:=h x t h2
  obtain⟨ρ',r'⟩:=hw h0 h3
  exact⟨x,t',ρ',h1,hq,r'⟩
def blksAt (id:Nat) (c:Code):List Code:=((blocks c).filter fun q=>q.1==id).map (·.2)
def bodyAt (id:Nat) (c:Code):Code:=
 match blksAt id c with
 |[.loop b]=>b
 |_=> .skip
def isLoop (id:Nat) (c:Code):Bool:=
 match blksAt id c with
 |[.loop _]=>true
 |_=>false
theorem isLoop_spec {id:Nat} {c:Code} (h:isLoop id c=true): ∀q∈blocks c,q.1=id→q.2=.loop (bodyAt id c):=by
 intro q hq hid
 have hm:q.2∈blksAt id c:=List.mem_map.2 ⟨q,List.mem_filter.2 ⟨hq,by simp[hid]⟩,rfl⟩
 unfold isLoop at h
 split at h
 ·rename_i b hb
  rw[hb]at hm
  have:bodyAt id c=b:=by unfold bodyAt;rw[hb]
  rw[this];simpa using hm
 ·cases h
theorem LcOk.nil {m:Nat} {c:Code}:LcOk P m [] c:=by intro q hq x hx;cases hx
theorem LcOk.cons {m id:Nat} {c:Code} {x:LC} {lc:List (Nat×LC)} (hl:isLoop id c=true) (g:Good P m (.block id (.loop (bodyAt id c))) x.pre fun e s=>e=x.ex∧s=x.post) (r:LcOk P m lc c):
  LcOk P m ((id,x)::lc) c:=by
 intro q hq y hy
 simp only[findLC]at hy
 split at hy
 ·rename_i e
  injection hy with hy;subst hy
  rw[isLoop_spec hl q hq e.symm,←e];exact g
 ·exact r q hq y hy
include hT hct hmix in
theorem Good.rounds {m id:Nat} {body:Code} {α:Type} (Inv:α→Prop) (I:α→St) (μ:α→Nat) (live liveX:List Nat) (ex:α→Ex) (post:α→St) (lc:α→List (Nat×LC))
  (hlc: ∀x,Inv x→LcOk P m (lc x) body)
  (h: ∀x,Inv x→ ∃n p o,evalC tt ct (lc x) m n body (I x) p=some o∧(∀b∈o.obl,b=true)∧(∀q∈o.eqs,q)∧
   ((o.ex=.normal∧ ∃y,Inv y∧μ y<μ x∧fit m live o.st=I y∧ex y=ex x∧post y=post x)∨(o.ex=.exit id∧ex x=.normal∧fit m liveX o.st=post x)∨
    (o.ex≠ .normal∧o.ex≠ .exit id∧ex x=o.ex∧fit m liveX o.st=post x))):
  ∀x,Inv x→Good P m (.block id (.loop body)) (I x) fun e t=>e=ex x∧t=post x:=by
 intro x0 hx0
 let Q: {x//Inv x}→Ex→St→Prop:=fun x e t=>e≠ .normal∧(if e=.exit id then ex x.1=.normal else ex x.1=e)∧fit m liveX t=post x.1
 have key:=Good.loop (P:=P) (m:=m) (body:=body) (α:= {x//Inv x}) (fun x=>I x.1) (fun x=>μ x.1) Q (fun x=>by
  obtain⟨n,p,o,he,ho,hq,hc⟩:=h x.1 x.2
  refine((evalC_sound hT hct hmix n he ho hq (hlc x.1 x.2)).1).mono fun e t ⟨h1,h2⟩=> ?_
  subst h1 h2
  rcases hc with⟨hn,y,hy,hm,hf,e1,e2⟩|⟨hn,e1,e2⟩|⟨h1,h2,h3,h4⟩
  ·refine .inl ⟨hn,⟨y,hy⟩,hm,by rw[←hf];exact Weak.fit m live _,fun e t hq=> ?_⟩
   simp only[Q,e1,e2]at hq⊢;exact hq
  ·refine .inr ⟨by rw[hn];simp,by rw[hn];simp,by rw[hn];simp[e1],e2⟩
  ·exact .inr ⟨h1,h1,by rw[if_neg h2];exact h3,h4⟩) ⟨x0,hx0⟩
 refine(Good.block (Q:=fun e t=>e=ex x0∧fit m liveX t=post x0) (key.mono fun e t hq=> ?_)).weaken fun e t ⟨h1,h2⟩=>⟨post x0,by rw[←h2];exact Weak.fit m liveX t,h1,rfl⟩
 obtain⟨h1,h2,h3⟩:=hq
 by_cases e1:e=.exit id
 ·rw[if_pos e1]at h2
  exact .inl ⟨e1,h2.symm,h3⟩
 ·rw[if_neg e1]at h2
  exact .inr ⟨e1,h2.symm,h3⟩
def Meets (P:Program) (f:FuncId) (args:List AV) (h:List Slot) (res:AV) (h':List Slot):Prop:=
 (∃fn,P.funcs[f]? =some fn∧fn.body.isSome=true∧(fn.name== "runtime.NumGoroutine")=false)∧
 ∀ {X:Nat→Prop} {w0:World} {ρ0:Rho},Mem X w0 (liveB ρ0) h ρ0 w0→ ∀(vs:List Value),vs.length=args.length→(∀q,q<args.length→AVR X w0 ρ0 (args.getD q .any) (vs.getD q undef))→
  Calls P f vs.toArray w0 fun e w'=> ∃v ρ',e=.returned v∧MonoB w0 (liveB ρ0) w' (liveB ρ')∧IdMono ρ0 ρ'∧Mem X w0 (liveB ρ0) h' ρ' w'∧AVR X w' ρ' res v
def packV:List Value→Value
 |[u]=>u
 |us=> .tuple us.toArray
def readVar (a:Act):ResultVar→Sem Value
 |.tmp t=>pure (a.tmps.getD t undef)
 |.cell ad t=>do loadVar t (←asAddr (a.tmps.getD ad undef))
include hT in
theorem resVars_sound {w0:World} {ρ0:Rho} {s:St} {ρ:Rho} {a:Act} {w:World} (r:Rel X w0 ρ0 s ρ a w): ∀ {l:List ResultVar} {vs:List AV} {o:List Bool},resVars tt s l=some (vs,o)→(∀b∈o,b=true)→
  ∃us:List Value,(l.mapM (readVar a)).run P w=.ok us w∧us.length=vs.length∧ ∀i,i<vs.length→AVR X w ρ (vs.getD i (.tup [])) (us.getD i undef)
 |[],vs,o,h,ho=>by
  simp only[resVars,Option.some.injEq,Prod.mk.injEq]at h
  obtain⟨rfl,rfl⟩:=h
  exact⟨[],by simp,rfl,fun i hi=>by simp at hi⟩
 |x::l,vs,o,h,ho=>by
  simp only[resVars]at h
  split at h
  ·rename_i v o1 vs1 o2 h1 h2
   simp only[Option.some.injEq,Prod.mk.injEq]at h
   obtain⟨rfl,rfl⟩:=h
   obtain⟨us,g1,g2,g3⟩:=resVars_sound r h2 (fun b hb=>ho b (List.mem_append_right _ hb))
   have hd: ∃u,(readVar a x).run P w=.ok u w∧AVR X w ρ v u:=by
    cases x with
    |tmp t=>
     simp only[resVar,Option.some.injEq,Prod.mk.injEq]at h1
     obtain⟨rfl,rfl⟩:=h1
     exact⟨_,rfl,r.ev (.tmp t)⟩
    |cell ad t=>
     simp only[resVar]at h1
     obtain⟨e,he,h3⟩:=Option.map_eq_some_iff.1 h1
     injection h3 with h3 h4;subst h3 h4
     have hx:=r.ev (.tmp ad)
     obtain⟨u,q1,q2,q3,ad',q4⟩:=load_sound hT r.mem (get:=Heap.get s.heap) (fun _ _ h=>h) hx he (fun b hb=>ho b (List.mem_append_left _ hb))
     refine⟨u, ?_,q2⟩
     have q4':a.tmps.getD ad undef=.pointer (some ad'):=q4
     rw[q4]at q1
     simpa [readVar,q4',asAddr,Instr.loadAt,Instr.sureAddr]using q1
   obtain⟨u,d1,d2⟩:=hd
   refine⟨u::us, ?_,by simp[g2],fun i hi=> ?_⟩
   ·simp only[List.mapM_cons,Sem.run_bind,d1,Result.andThen_ok,g1,Sem.run_pure]
   ·cases i with
    |zero=>simpa using d2
    |succ i=>simpa using g3 i (by simpa using hi)
  ·cases h
theorem results_eq (fn:Func) (a:Act):results fn a.tmps=(do let vs←fn.results.mapM (readVar a);pure (if h:vs.size=1 then vs[0]else .tuple vs)):=by
 unfold results
 congr 1
theorem allL_spec: ∀ {l:List Bool},allL l=true→ ∀b∈l,b=true
 |[],_,b,h=>by cases h
 |x::r,h,b,hb=>by
  simp only[allL,Bool.and_eq_true]at h
  rcases List.mem_cons.1 hb with e|e
  ·subst e;exact h.1
  ·exact allL_spec h.2 b e
include hT hct hmix in
theorem evalF_sound {lc:List (Nat×LC)} {fuel:Nat} {f:FuncId} {fn:Func} {args:List AV} {h:List Slot} {p:Path} {o:FOut} (hf:P.funcs[f]? =some fn) (hnm:(fn.name== "runtime.NumGoroutine")=false)
  (he:evalF tt ct lc fuel fn args h p=some o) (ho:o.obl=true) (hq: ∀q∈o.eqs,q) (hlc: ∀c,fn.body=some c→LcOk P h.length lc c):Meets P f args h o.res o.heap:=by
 unfold evalF at he
 split at he
 ·cases he
 ·rename_i c hbody
  refine⟨⟨fn,hf,by simp[hbody],hnm⟩,fun {X w0 ρ0} hmem vs hvl hva=> ?_⟩
  split at he
  ·cases he
  ·rename_i ex s p' o1 q hne hev
   split at he
   ·cases he
   ·rename_i rs o2 hres
    simp only[Option.some.injEq]at he
    subst he
    dsimp only at ho hq⊢
    have hob:=allL_spec ho
    have hgood:=(evalC_sound hT hct hmix fuel hev (fun b hb=>hob b (List.mem_append_left _ hb)) hq (hlc c hbody)).1
    have hrel:Rel X w0 ρ0 (start fn args h) ρ0 {tmps:=vs.toArray++Array.replicate (fn.ntmps-vs.toArray.size) undef,defers:=[]} w0:=by
     refine⟨by simp[start,hvl],fun t ht=> ?_,hmem,rfl,MonoB.refl _ _,IdMono.refl _⟩
     simp only[start]
     by_cases h1:t<args.length
     ·have:=hva t h1
      have h2:t<vs.length:=by omega
      have e1:(args++List.replicate (fn.ntmps-args.length) (AV.tup [])).getD t (.tup [])=args.getD t .any:=by
       simp[List.getD_eq_getElem?_getD,List.getElem?_append,h1]
      have e2:(vs.toArray++Array.replicate (fn.ntmps-vs.toArray.size) undef).getD t undef=vs.getD t undef:=by
       simp[Array.getD_eq_getD_getElem?,Array.getElem?_append,h2]
      rw[e1,e2];exact this
     ·have h2: ¬t<vs.length:=by omega
      have e1:(args++List.replicate (fn.ntmps-args.length) (AV.tup [])).getD t (.tup [])=.tup []:=by
       simp only[List.getD_eq_getElem?_getD,List.getElem?_append,h1,if_false,List.getElem?_replicate]
       split<;>rfl
      have e2:(vs.toArray++Array.replicate (fn.ntmps-vs.toArray.size) undef).getD t undef=undef:=by
       simp only[Array.getD_eq_getD_getElem?,Array.getElem?_append,List.size_toArray,h2,if_false,Array.getElem?_replicate]
       split<;>rfl
      rw[e1,e2];exact avr_undef w0 ρ0
    have h0: ∀k,h.length≤k→ρ0 k=.unborn:=fun k hk=>by
     have:=hmem.slot k
     rw[Heap.get_ge hk]at this
     cases hx:ρ0 k<;>rw[hx]at this<;>first|rfl|exact this.elim
    refine calls_of_wp hf hbody (wp_mono (hgood h0 hrel) ?_)
    rintro e a w ⟨x,t,ρ,rfl,⟨hx,rfl⟩,r⟩
    dsimp only at hx r
    obtain⟨us,g1,g2,g3⟩:=resVars_sound hT r hres (fun b hb=>hob b (List.mem_append_right _ hb))
    have hrun:(results fn a.tmps).run P w=.ok (packV us) w:=by
     rw[results_eq]
     have e1:(fn.results.mapM (readVar a)).run P w=.ok us.toArray w:=by
      rw[Array.mapM_eq_mapM_toList]
      simp[g1]
     simp only[Sem.run_bind,e1,Result.andThen_ok,Sem.run_pure]
     congr 1
     cases us with
     |nil=>simp[packV]
     |cons u us=>cases us<;>simp[packV]
    have hres':AVR X w ρ (pack rs) (packV us):=by
     have tup:AVR X w ρ (.tup rs) (.tuple us.toArray):=.tup _ _ (by simp[g2]) fun i hi=>by
      have:=g3 i hi
      simpa [Array.getD_eq_getD_getElem?,List.getD_eq_getElem?_getD]using this
     cases rs with
     |nil=>cases us with
      |nil=>exact tup
      |cons u us=>simp at g2
     |cons v rs=>
      cases us with
      |nil=>simp at g2
      |cons u us=>
       cases rs with
       |nil=>
        cases us with
        |nil=>have:=g3 0 (by simp);simpa [pack,packV]using this
        |cons u' us=>simp at g2
       |cons v' rs=>
        cases us with
        |nil=>simp at g2
        |cons u' us=>exact tup
    have hn:nodup (reachIds h.length (pack rs) t.heap)=true:=by
     unfold reachIds
     exact dedup_nodup _ _ (dedup_nodup _ _ (rangeL_nodup _ _))
    have hroots:rootsB h.length 0 (reachIds h.length (pack rs) t.heap)=true:=by
     unfold reachIds
     exact dedup_roots _ _ _ _ (dedup_roots _ _ _ _ (rangeL_roots _ _))
    have hend: ∃v ρ',(Ending.returned (packV us))=.returned v∧MonoB w0 (liveB ρ0) w (liveB ρ')∧IdMono ρ0 ρ'∧
      Mem X w0 (liveB ρ0) ((reachIds h.length (pack rs) t.heap).map fun id=>(Heap.get t.heap id).ren (reachIds h.length (pack rs) t.heap)) ρ' w∧
      AVR X w ρ' ((pack rs).ren (reachIds h.length (pack rs) t.heap)) v:=by
     refine⟨_,renRho t.heap (reachIds h.length (pack rs) t.heap) ρ,rfl, ?_, ?_,r.mem.ren hn,hres'.ren (renRho_live _ _ _) (renRho_renames _ _ _)⟩
     ·exact r.mono.trans ⟨fun _ _ _=>rfl,fun _ _=>rfl,Nat.le_refl _,fun b hb=> .inl (renRho_live _ _ _ b hb)⟩
     ·have one: ∀k,ρ0 k≠ .unborn→renRho t.heap (reachIds h.length (pack rs) t.heap) ρ k=ρ k∨renRho t.heap (reachIds h.length (pack rs) t.heap) ρ k=.dead:=fun k hk=>by
       have hlt:k<h.length:=by
        rcases Nat.lt_or_ge k h.length with h'|h'
        ·exact h'
        ·exact absurd (h0 k h') hk
       have:=rootsB_spec hroots k hlt
       rw[Nat.zero_add]at this
       exact renRho_cases this
      refine⟨fun id h=> ?_,fun id h=> ?_,fun id b h=> ?_⟩
      ·rcases one id (by rw[h];simp)with e|e
       ·rw[e];exact r.ids.dead id h
       ·exact e
      ·rcases one id (by rw[h];simp)with e|e
       ·rw[e];exact r.ids.nil id h
       ·exact .inr e
      ·rcases one id (by rw[h];simp)with e|e
       ·rw[e];exact r.ids.at_ id b h
       ·exact .inr e
    cases x with
    |normal=>exact⟨r.defers,_,hrun,hend⟩
    |ret=>exact⟨r.defers,_,hrun,hend⟩
    |exit k=>exact(hne k hx.symm).elim
  ·cases he
end
end Go.Proofs.YthapjdpkelihiaaGreat.Am
end
section
namespace Go.Proofs.YthapjdpkelihiaaGreat.Am
mutual
def Cell.back (l:List Nat):Cell→Cell
 |.ptr id i es j=> .ptr (l.getD id 0) i es j
 |.sl id o len es cap=> .sl (l.getD id 0) o len es cap
 |.fn f caps=> .fn f (backL l caps)
 |x=>x
def backL (l:List Nat):List Cell→List Cell
 |[]=>[]
 |x::r=>x.back l::backL l r
end
mutual
def AV.back (l:List Nat):AV→AV
 |.any=> .any
 |.c x=> .c (x.back l)
 |.agg cs=> .agg (backL l cs)
 |.tup vs=> .tup (backT l vs)
def backT (l:List Nat):List AV→List AV
 |[]=>[]
 |x::r=>x.back l::backT l r
end
def Slot.back (l:List Nat):Slot→Slot
 |.live (.cells cs)=> .live (.cells (backL l cs))
 |s=>s
mutual
def Cell.vfree:Cell→Bool
 |.vptr .. =>false
 |.view .. =>false
 |.fn _ l=>vfreeL l
 |_=>true
def vfreeL:List Cell→Bool
 |[]=>true
 |x::r=>x.vfree&&vfreeL r
end
mutual
def AV.vfree:AV→Bool
 |.any=>true
 |.c x=>x.vfree
 |.agg cs=>vfreeL cs
 |.tup vs=>vfreeT vs
def vfreeT:List AV→Bool
 |[]=>true
 |x::r=>x.vfree&&vfreeT r
end
def Slot.vfree:Slot→Bool
 |.live (.ivs ..)=>false
 |.live (.recs ..)=>false
 |.live (.cells cs)=>vfreeL cs
 |_=>true
def Slot.plain:Slot→Bool
 |.live (.recs ..)=>false
 |_=>true
theorem backL_getD (l:List Nat): ∀(cs:List Cell) (i:Nat),(backL l cs).getD i .any=(cs.getD i .any).back l
 |[],i=>by simp[backL,Cell.back]
 |x::r,0=>by simp[backL]
 |x::r,i+1=>by simpa [backL]using backL_getD l r i
theorem backL_length (l:List Nat): ∀cs:List Cell,(backL l cs).length=cs.length
 |[]=>rfl
 |x::r=>by simp[backL,backL_length l r]
theorem backT_getD (l:List Nat): ∀(vs:List AV) (i:Nat),(backT l vs).getD i (.tup [])=(vs.getD i (.tup [])).back l
 |[],i=>by simp[backT,AV.back]
 |x::r,0=>by simp[backT]
 |x::r,i+1=>by simpa [backT]using backT_getD l r i
theorem backT_length (l:List Nat): ∀cs:List AV,(backT l cs).length=cs.length
 |[]=>rfl
 |x::r=>by simp[backT,backT_length l r]
theorem vfreeL_getD: ∀ {cs:List Cell},vfreeL cs=true→ ∀i,(cs.getD i .any).vfree=true
 |[],_,i=>by simp[Cell.vfree]
 |x::r,h,i=>by
  simp only[vfreeL,Bool.and_eq_true]at h
  cases i with
  |zero=>simpa using h.1
  |succ i=>simpa using vfreeL_getD h.2 i
theorem vfreeT_getD: ∀ {cs:List AV},vfreeT cs=true→ ∀i,(cs.getD i (.tup [])).vfree=true
 |[],_,i=>by simp[AV.vfree,vfreeT]
 |x::r,h,i=>by
  simp only[vfreeT,Bool.and_eq_true]at h
  cases i with
  |zero=>simpa using h.1
  |succ i=>simpa using vfreeT_getD h.2 i
def Backs (l:List Nat) (ρ1 ρ':Rho):Prop:= ∀k,ρ1 k≠ .unborn→ρ' (l.getD k 0)=ρ1 k
theorem CR0.back {w:World} {L L':Nat→Prop} {l:List Nat} {ρ:Rho} {c:Cell} {v:Value} (h:CR0 w L ρ c v):
  ∀ {ρ':Rho},((∀b,L' b→L b)∨c.vfree=true)→Backs l ρ ρ'→CR0 w L' ρ' (c.back l) v:=by
 induction h with
 |any v h=>exact fun _ _=> .any v h
 |int k n=>exact fun _ _=> .int k n
 |bool b=>exact fun _ _=> .bool b
 |str s=>exact fun _ _=> .str s
 |nilp=>exact fun _ _=> .nilp
 |nils=>exact fun _ _=> .nils
 |nilf=>exact fun _ _=> .nilf
 |ptrDead id i es j v hd h=>exact fun _ hb=> .ptrDead _ i es j v (by rw[hb id (by rw[hd];simp),hd]) h
 |ptr id i es j b hb=>exact fun _ h=> .ptr _ i es j b (by rw[h id (by rw[hb];simp),hb])
 |slDead id o len es cap v hd h=>exact fun _ hb=> .slDead _ o len es cap v (by rw[hb id (by rw[hd];simp),hd]) h
 |sl id o len es cap b c ty n hb hs hn hl hc=>exact fun _ h=> .sl _ o len es cap b c ty n (by rw[h id (by rw[hb];simp),hb]) hs hn hl hc
 |slNone id o es cap a h1 hc=>exact fun _ h=> .slNone _ o es cap a (by rw[h id h1];exact h1) hc
 |vptr c i es j b base u hl hc hu ih=>
  intro ρ' hL _
  rcases hL with hL|hL
  ·have mb:MonoB w _ w L':=⟨fun _ _ _=>rfl,fun _ _=>rfl,Nat.le_refl _,fun b hb=> .inl (hL b hb)⟩
   exact .vptr c i es j b base u (fun h0 hb=>hl h0 (hL b hb)) hc (fun q hq=>(hu q hq).mono mb (.refl _))
  ·simp[Cell.vfree]at hL
 |view nl c len es cap b base k u hl hc hu hz hk hcap hnl ih=>
  intro ρ' hL _
  rcases hL with hL|hL
  ·have mb:MonoB w _ w L':=⟨fun _ _ _=>rfl,fun _ _=>rfl,Nat.le_refl _,fun b hb=> .inl (hL b hb)⟩
   exact .view nl c len es cap b base k u (fun h0 hb=>hl h0 (hL b hb)) hc (fun q hq=>(hu q hq).mono mb (.refl _)) hz hk hcap hnl
  ·simp[Cell.vfree]at hL
 |viewNone nl c es cap a k hz hcap hnl hk=>exact fun _ _=> .viewNone nl c es cap a k hz hcap hnl hk
 |fn f caps vs hs h ih=>
  intro ρ' hL hr
  simp only[Cell.back]
  refine .fn f _ vs (by rw[backL_length];exact hs) fun i hi=> ?_
  rw[backL_length]at hi
  rw[backL_getD]
  refine ih i hi (hL.imp id fun h=> ?_) hr
  simp only[Cell.vfree]at h
  exact vfreeL_getD h i
theorem AVR.back {X Y:Nat→Prop} {w:World} {ρ ρ':Rho} {l:List Nat} (hr:Backs l ρ ρ') {x:AV} {v:Value} (h:AVR X w ρ x v):
  ((∀b,(liveB ρ' b∨Y b)→(liveB ρ b∨X b))∨x.vfree=true)→AVR Y w ρ' (x.back l) v:=by
 induction h with
 |any v=>exact fun _=> .any v
 |c x v h=>exact fun hL=> .c _ _ (CR0.back h (hL.imp id fun h=>by simpa [AV.vfree]using h) hr)
 |agg cs vs hs h=>
  intro hL
  simp only[AV.back]
  refine .agg _ _ (by rw[backL_length];exact hs) fun i hi=> ?_
  rw[backL_length]at hi;rw[backL_getD]
  exact CR0.back (h i hi) (hL.imp id fun h=>vfreeL_getD (by simpa [AV.vfree]using h) i) hr
 |tup cs vs hs h ih=>
  intro hL
  simp only[AV.back]
  refine .tup _ _ (by rw[backT_length];exact hs) fun i hi=> ?_
  rw[backT_length]at hi;rw[backT_getD]
  exact ih i hi (hL.imp id fun h=>vfreeT_getD (by simpa [AV.vfree]using h) i)
theorem SlotR.back {X Y:Nat→Prop} {w:World} {ρ ρ':Rho} {l:List Nat} (hr:Backs l ρ ρ') {s:Slot} {x:Wh} (hp:s.plain=true) (h:SlotR X w ρ s x)
  (hL:(∀b,(liveB ρ' b∨Y b)→(liveB ρ b∨X b))∨s.vfree=true):SlotR Y w ρ' (s.back l) x:=by
 cases s with
 |unborn=>cases x<;>exact h
 |dead=>cases x<;>exact h
 |live c=>
  have flat:(∀q,((c.cell q).back l)=c.cell q)→((∀b,(liveB ρ' b∨Y b)→(liveB ρ b∨X b))∨ ∀q,(c.cell q).vfree=true)→SlotR Y w ρ' (.live c) x:=by
   intro hb hv
   cases x with
   |unborn=>exact h
   |dead=>exact h
   |nil=>exact h
   |row b=>
    obtain⟨cs,ty,e,h1,h2⟩:=h
    refine⟨cs,ty,e,h1,fun q hq=> ?_⟩
    have:=CR0.back (l:=l) (L':=fun b=>liveB ρ' b∨Y b) (h2 q hq) (hv.imp id fun h=>h q) hr
    rwa[hb q]at this
  cases c with
  |recs=>simp[Slot.plain]at hp
  |ints k xs=>exact flat (fun q=>by simp[Con.cell,Cell.back]) (.inr fun q=>by simp[Con.cell,Cell.vfree])
  |bools xs=>exact flat (fun q=>by simp[Con.cell,Cell.back]) (.inr fun q=>by simp[Con.cell,Cell.vfree])
  |ivs k xss=>exact flat (fun q=>by simp[Con.cell,Cell.back]) (hL.imp id fun h=>by simp[Slot.vfree]at h)
  |cells cs=>
   simp only[Slot.back]
   cases x with
   |unborn=>exact h
   |dead=>exact h
   |nil=>simp only[SlotR,Con.size,backL_length]at h⊢;exact h
   |row b=>
    obtain⟨vs,ty,e,h1,h2⟩:=h
    refine⟨vs,ty,e,by simpa [Con.size,backL_length]using h1,fun q hq=> ?_⟩
    simp only[Con.size,backL_length]at hq
    simp only[Con.cell]
    rw[backL_getD]
    exact CR0.back (h2 q hq) (hL.imp id fun h=>vfreeL_getD (by simpa [Slot.vfree]using h) q) hr
def vwC (get:Get):Cell→Option (Cell×List Bool)
 |.sl id 0 len es cap=>match get id with
  |.live c=>bif c.free then some (.view none c len es cap,[decide (ix len es 0=c.size)])else none
  |_=>none
 |.sl id o len es cap=>match get id with
  |.live c=>bif c.free then(c.sub es (some o) none).map fun c'=>(.view none c' len es cap,[decide (ix (o+len) es 0=c.size)])else none
  |_=>none
 |.ptr id i es j=>match get id with
  |.live c=>bif c.free then some (.vptr c i es j,[])else none
  |_=>none
 |_=>none
def cvC (get:Get) (roots:List Nat) (x:Cell):Option (Cell×List Bool×Bool):=
 bif x.ids.all roots.elem then some (x.ren roots,[],false)else(vwC get x).map fun(y,o)=>(y,o,true)
def cvL (get:Get) (roots:List Nat):List Cell→Option (List Cell×List Bool×Bool)
 |[]=>some ([],[],false)
 |x::r=>match cvC get roots x,cvL get roots r with
  |some (y,o,b),some (ys,o',b')=>some (y::ys,o++o',b||b')
  |_,_=>none
def cvA (get:Get) (roots:List Nat):AV→Option (AV×List Bool×Bool)
 |.any=>some (.any,[],false)
 |.c x=>(cvC get roots x).map fun(y,o,b)=>(.c y,o,b)
 |.agg cs=>(cvL get roots cs).map fun(y,o,b)=>(.agg y,o,b)
 |.tup _=>none
def cvAll (get:Get) (roots:List Nat):List AV→Option (List AV×List Bool×Bool)
 |[]=>some ([],[],false)
 |x::r=>match cvA get roots x,cvAll get roots r with
  |some (y,o,b),some (ys,o',b')=>some (y::ys,o++o',b||b')
  |_,_=>none
def zipS (l:List Nat):List Nat→List Slot→List (Nat×Slot)
 |x::t,s::r=>(x,s.back l)::zipS l t r
 |_,_=>[]
abbrev Model:=List AV→List Slot→Option (AV×List Slot×List Bool)
def okRoot (get:Get) (id:Nat):Bool:=alive get id&&(get id).plain
def callA (F:Model) (roots:List Nat) (args:List AV) (get:Get) (base:Nat):Option Eff:=
 bif nodup roots&&roots.all (okRoot get)then
  match cvAll get roots args with
  |none=>none
  |some (cargs,o,vd)=>
   match F cargs (roots.map fun id=>(get id).ren roots)with
   |none=>none
   |some (res,h1,o')=>
    bif Nat.ble roots.length h1.length&&Nat.ble h1.length (roots.length+8)&&(!vd||(res.vfree&&h1.all Slot.vfree))&&h1.all Slot.plain then
     some {val:=res.back (roots++rangeL 8 base),sets:=zipS (roots++rangeL 8 base) (roots++rangeL 8 base) h1,obl:=o++o'}
    else none
 else none
def ModelOk (P:Program) (f:FuncId) (F:Model):Prop:= ∀args h res h' o,F args h=some (res,h',o)→(∀b∈o,b=true)→Meets P f args h res h'
end Go.Proofs.YthapjdpkelihiaaGreat.Am
end
section
namespace Go.Proofs.YthapjdpkelihiaaGreat.Am
theorem idx?_none: ∀ {l:List Nat} {id:Nat},idx? l id=none→id∉l
 |[],id,_=>by simp
 |x::r,id,h=>by
  simp only[idx?]at h
  split at h
  ·cases h
  ·rename_i e
   simp only[Option.map_eq_none_iff]at h
   intro hm
   rcases List.mem_cons.1 hm with hm|hm
   ·exact e hm.symm
   ·exact idx?_none h hm
theorem idx?_some {l:List Nat} {id k:Nat} (hn:nodup l=true) (h:l[k]? =some id):idx? l id=some k:=by
 cases hi:idx? l id with
 |none=>exact absurd (List.mem_of_getElem? h) (idx?_none hi)
 |some j=>rw[nodup_idx hn (idx?_spec hi) h]
theorem rangeL_get: ∀(n k i:Nat),(rangeL n k)[i]? =if i<n then some (k+i)else none
 |0,k,i=>by simp[rangeL]
 |n+1,k,0=>by simp[rangeL]
 |n+1,k,i+1=>by
  simp only[rangeL,List.getElem?_cons_succ,rangeL_get n (k+1) i,Nat.add_lt_add_iff_right]
  split
  ·congr 1;omega
  ·rfl
theorem rangeL_len: ∀(n k:Nat),(rangeL n k).length=n
 |0,_=>rfl
 |n+1,k=>by simp[rangeL,rangeL_len n]
theorem nodup_of {l:List Nat} (h: ∀(i j x:Nat),l[i]? =some x→l[j]? =some x→i=j):nodup l=true:=by
 induction l with
 |nil=>rfl
 |cons y r ih=>
  simp only[nodup,Bool.and_eq_true,Bool.not_eq_true']
  refine⟨?_,ih fun i j x hi hj=> ?_⟩
  ·cases hc:r.elem y with
   |false=>rfl
   |true=>
    have:y∈r:=by simpa using hc
    obtain⟨i,hi⟩:=List.getElem?_of_mem this
    have:=h 0 (i+1) y (by simp) (by simpa using hi)
    omega
  ·have:=h (i+1) (j+1) x (by simpa using hi) (by simpa using hj)
   omega
theorem setH_zip (l:List Nat): ∀(t:List Nat) (hs:List Slot) (h:List Slot) (id:Nat),nodup t=true→(∀x∈t,x<h.length)→
  Heap.get (setH h (zipS l t hs)) id=match idx? t id with
   |some k=>if k<hs.length then(Heap.get hs k).back l else Heap.get h id
   |none=>Heap.get h id
 |[],hs,h,id,_,_=>by simp[zipS,setH,idx?]
 |x::t,[],h,id,_,_=>by
  simp only[zipS,setH]
  split<;>simp
 |x::t,s::r,h,id,hn,hl=>by
  have hx:=hl x List.mem_cons_self
  simp only[nodup,Bool.and_eq_true,Bool.not_eq_true']at hn
  have hxt:x∉t:=fun hm=>by rw[List.elem_eq_true_of_mem hm]at hn;cases hn.1
  simp only[zipS,setH]
  rw[setH_zip l t r (h.set x (s.back l)) id hn.2 (fun y hy=>by simpa using hl y (List.mem_cons_of_mem _ hy)),Heap.get_set]
  simp only[idx?]
  by_cases e:x=id
  ·subst e
   have:idx? t x=none:=by
    cases hi:idx? t x with
    |none=>rfl
    |some k=>exact absurd (List.mem_of_getElem? (idx?_spec hi)) hxt
   rw[this]
   simp[hx,Heap.get]
  ·rw[if_neg e]
   have e': ¬id=x:=fun h=>e h.symm
   cases hi:idx? t id with
   |none=>simp[e']
   |some k=>
    simp only[Option.map_some,List.length_cons,Nat.add_lt_add_iff_right]
    split
    ·simp[Heap.get]
    ·simp[e']
theorem cvC_sound {X Y:Nat→Prop} {w0 w:World} {M:Nat→Prop} {h:List Slot} {ρ ρ0:Rho} (m:Mem X w0 M h ρ w) {get:Get} (hg: ∀id c,get id=.live c→Heap.get h id=.live c) {roots:List Nat}
  (hr:Renames roots ρ ρ0) (hb: ∀k b,ρ0 k=.row b→ ∃id,roots[k]? =some id∧ρ id=.row b) {x y:Cell} {o:List Bool} {vd:Bool} {v:Value} (hc:cvC get roots x=some (y,o,vd)) (ho: ∀b∈o,b=true)
  (hL: ∀b,(liveB ρ0 b∨Y b)→(liveB ρ b∨X b)) (hv:vd=true→ ∀b, ¬Y b) (hx:CR X w ρ x v):CR Y w ρ0 y v:=by
 unfold cvC at hc
 cases ha:x.ids.all roots.elem with
 |true=>
  rw[ha]at hc
  injection hc with hc;injection hc with h1 h2;subst h1
  exact CR0.ren hL hx hr
 |false=>
  rw[ha]at hc
  obtain⟨⟨y',o'⟩,h1,h2⟩:=Option.map_eq_some_iff.1 hc
  injection h2 with h2 h3;injection h3 with h3 h4;subst h2 h3 h4
  have hY:=hv rfl
  have notL: ∀ {id b},roots.elem id=false→ρ id=.row b→ ¬(liveB ρ0 b∨Y b):=by
   rintro id b hid hrow (⟨k,hk⟩|hyb)
   ·obtain⟨j,j1,j2⟩:=hb k b hk
    have:=m.inj id j b hrow j2
    subst this
    rw[List.elem_eq_true_of_mem (List.mem_of_getElem? j1)]at hid;cases hid
   ·exact hY b hyb
  have mb:MonoB w (fun b=>liveB ρ b∨X b) w (fun b=>liveB ρ0 b∨Y b):=⟨fun _ _ _=>rfl,fun _ _=>rfl,Nat.le_refl _,fun b hb=> .inl (hL b hb)⟩
  unfold vwC at h1
  split at h1
  ·rename_i id len es cap
   have hid:roots.elem id=false:=by simpa [Cell.ids]using ha
   split at h1
   ·rename_i c hs
    cases hfr:c.free with
    |false=>rw[hfr]at h1;cases h1
    |true=>
    rw[hfr]at h1
    injection h1 with h1;injection h1 with e1 e2;subst e1 e2
    have hz:len*es=c.size:=by simpa [ix_eq]using ho _ (List.mem_singleton.2 rfl)
    rcases live_sl m (hg _ _ hs) hx with⟨b,k,ty,n,hb',rfl,⟨cs,ty',hrow,hsz,hcs⟩,hsh,hn,hl,hcap⟩|⟨a,rfl,rfl,hcap⟩
    ·rw[Nat.zero_mul]
     refine .view none c len es cap b 0 k (fun q=>cs.getD q undef) (fun _=>notL hid hb') (fun q hq=> ?_) (fun q hq=>((hcs q hq).free (free_cell hfr q)).mono mb (IdMono.noIds _)) hz hl hcap (fun _ h=>by cases h)
     have hq':q<cs.size:=by omega
     simp[World.cell?,hrow,Array.getD,hq']
    ·exact .viewNone none c es cap a 0 (by omega) hcap (fun _ h=>by cases h) (fun _=>rfl)
   ·cases h1
  ·rename_i id o len es cap hne
   have hid:roots.elem id=false:=by simpa [Cell.ids]using ha
   split at h1
   ·rename_i c hs
    cases hfr:c.free with
    |false=>rw[hfr]at h1;cases h1
    |true=>
    rw[hfr]at h1
    obtain⟨c',g1,g2⟩:=Option.map_eq_some_iff.1 h1
    injection g2 with e1 e2;subst e1 e2
    have hz:(o+len)*es=c.size:=by simpa [ix_eq]using ho _ (List.mem_singleton.2 rfl)
    obtain⟨s1,s2⟩:=sub_sound (len:=o+len) g1 hz (by simp) (by simp)
    simp only[Option.getD_none,Option.getD_some]at s1 s2
    have s1':c'.size=len*es:=by rw[s1];congr 1;omega
    rcases live_sl m (hg _ _ hs) hx with⟨b,k,ty,n,hb',rfl,⟨cs,ty',hrow,hsz,hcs⟩,hsh,hn,hl,hcap⟩|⟨a,rfl,rfl,hcap⟩
    ·have hin: ∀q,q<c'.size→o*es+q<c.size:=fun q hq=>by
      rw[s1']at hq;rw[←hz,Nat.add_mul];omega
     refine .view none c' len es cap b (o*es) k (fun q=>cs.getD (o*es+q) undef) (fun _=>notL hid hb') (fun q hq=> ?_) (fun q hq=> ?_) s1'.symm hl hcap (fun _ h=>by cases h)
     ·have hq':o*es+q<cs.size:=by have:=hin q hq;omega
      simp[World.cell?,hrow,Array.getD,hq']
     ·rw[s2 q hq]
      exact((hcs _ (hin q hq)).free (free_cell hfr _)).mono mb (IdMono.noIds _)
    ·exact .viewNone none c' es cap a 0 (by rw[s1',Nat.zero_mul]) hcap (fun _ h=>by cases h) (fun _=>rfl)
   ·cases h1
  ·rename_i id i es j
   have hid:roots.elem id=false:=by simpa [Cell.ids]using ha
   split at h1
   ·rename_i c hs
    cases hfr:c.free with
    |false=>rw[hfr]at h1;cases h1
    |true=>
    rw[hfr]at h1
    injection h1 with h1;injection h1 with e1 e2;subst e1 e2
    obtain⟨b,hb',rfl,cs,ty,hrow,hsz,hcs⟩:=live_ptr m (hg _ _ hs) hx
    have:=CR0.vptr (w:=w) (L:=fun b=>liveB ρ0 b∨Y b) (ρ:=ρ0) c i es j b 0 (fun q=>cs.getD q undef) (fun _=>notL hid hb') (fun q hq=>by
      have hq':q<cs.size:=by omega
      simp[World.cell?,hrow,Array.getD,hq']) (fun q hq=>((hcs q hq).free (free_cell hfr q)).mono mb (IdMono.noIds _))
    simpa using this
   ·cases h1
  ·cases h1
end Go.Proofs.YthapjdpkelihiaaGreat.Am
end
section
namespace Go.Proofs.YthapjdpkelihiaaGreat.Am
section
variable {X Y : Nat → Prop} {w0 w : World} {M : Nat → Prop} {h : List Slot} {ρ ρ0 : Rho} (m : Mem X w0 M h ρ w) {get : Get} (hg : ∀ id c, get id = .live c → Heap.get h id = .live c) {roots : List Nat}
 (hr:Renames roots ρ ρ0) (hb: ∀(k b:Nat),ρ0 k=.row b→ ∃id:Nat,roots[k]? =some id∧ρ id=.row b) (hL: ∀b,(liveB ρ0 b∨Y b)→(liveB ρ b∨X b))
include m hg hr hb hL
theorem cvL_sound: ∀ {l l':List Cell} {o:List Bool} {vd:Bool} (f:Nat→Value),cvL get roots l=some (l',o,vd)→(∀b∈o,b=true)→(vd=true→ ∀b, ¬Y b)→
  (∀q,q<l.length→CR X w ρ (l.getD q .any) (f q))→l'.length=l.length∧ ∀q,q<l.length→CR Y w ρ0 (l'.getD q .any) (f q)
 |[],l',o,vd,f,hc,_,_,_=>by
  injection hc with hc;injection hc with h1 h2;subst h1
  exact⟨rfl,fun q hq=>by simp at hq⟩
 |x::r,l',o,vd,f,hc,ho,hv,hx=>by
  simp only[cvL]at hc
  split at hc
  ·rename_i y o1 b ys o2 b' e1 e2
   injection hc with hc;injection hc with h1 h2;injection h2 with h2 h3;subst h1 h2 h3
   obtain⟨g1,g2⟩:=cvL_sound (fun q=>f (q+1)) e2 (fun b hb=>ho b (List.mem_append_right _ hb)) (fun h=>hv (by simp[h])) (fun q hq=>by simpa using hx (q+1) (by simpa using hq))
   refine⟨by simp[g1],fun q hq=> ?_⟩
   cases q with
   |zero=>simpa using cvC_sound m hg hr hb e1 (fun b hb=>ho b (List.mem_append_left _ hb)) hL (fun h=>hv (by simp[h])) (by simpa using hx 0 (by simp))
   |succ q=>simpa using g2 q (by simpa using hq)
  ·cases hc
theorem cvA_sound {x y:AV} {o:List Bool} {vd:Bool} {v:Value} (hc:cvA get roots x=some (y,o,vd)) (ho: ∀b∈o,b=true) (hv:vd=true→ ∀b, ¬Y b) (hx:AVR X w ρ x v):AVR Y w ρ0 y v:=by
 cases hx with
 |any v=>injection hc with hc;injection hc with h1 h2;subst h1;exact .any v
 |c x v hx=>
  obtain⟨⟨y',o',b⟩,h1,h2⟩:=Option.map_eq_some_iff.1 hc
  injection h2 with h2 h3;injection h3 with h3 h4;subst h2 h3 h4
  exact .c _ _ (cvC_sound m hg hr hb h1 ho hL hv hx)
 |agg cs vs hs hx=>
  obtain⟨⟨y',o',b⟩,h1,h2⟩:=Option.map_eq_some_iff.1 hc
  injection h2 with h2 h3;injection h3 with h3 h4;subst h2 h3 h4
  obtain⟨g1,g2⟩:=cvL_sound m hg hr hb hL (fun q=>vs.getD q undef) h1 ho hv hx
  exact .agg _ _ (by rw[g1,hs]) fun i hi=>g2 i (by rw[←g1];exact hi)
 |tup l vs hs hx=>cases hc
theorem cvAll_sound: ∀ {l l':List AV} {o:List Bool} {vd:Bool} (f:Nat→Value),cvAll get roots l=some (l',o,vd)→(∀b∈o,b=true)→(vd=true→ ∀b, ¬Y b)→
  (∀q,q<l.length→AVR X w ρ (l.getD q .any) (f q))→l'.length=l.length∧ ∀q,q<l.length→AVR Y w ρ0 (l'.getD q .any) (f q)
 |[],l',o,vd,f,hc,_,_,_=>by
  injection hc with hc;injection hc with h1 h2;subst h1
  exact⟨rfl,fun q hq=>by simp at hq⟩
 |x::r,l',o,vd,f,hc,ho,hv,hx=>by
  simp only[cvAll]at hc
  split at hc
  ·rename_i y o1 b ys o2 b' e1 e2
   injection hc with hc;injection hc with h1 h2;injection h2 with h2 h3;subst h1 h2 h3
   obtain⟨g1,g2⟩:=cvAll_sound (fun q=>f (q+1)) e2 (fun b hb=>ho b (List.mem_append_right _ hb)) (fun h=>hv (by simp[h])) (fun q hq=>by simpa using hx (q+1) (by simpa using hq))
   refine⟨by simp[g1],fun q hq=> ?_⟩
   cases q with
   |zero=>simpa using cvA_sound m hg hr hb hL e1 (fun b hb=>ho b (List.mem_append_left _ hb)) (fun h=>hv (by simp[h])) (by simpa using hx 0 (by simp))
   |succ q=>simpa using g2 q (by simpa using hq)
  ·cases hc
end
theorem all_get {p:Slot→Bool} (hp:p .unborn=true) {h:List Slot} (ha:h.all p=true) (k:Nat):p (Heap.get h k)=true:=by
 rcases Nat.lt_or_ge k h.length with hk|hk
 ·have:Heap.get h k=h[k]:=by simp[Heap.get,hk]
  rw[this];exact List.all_eq_true.1 ha _ (List.getElem_mem hk)
 ·rw[Heap.get_ge hk];exact hp
theorem callA_sound {P:Program} {f:FuncId} {F:Model} (hF:ModelOk P f F)
  {roots:List Nat} {args:List AV} {get:Get} {base:Nat} {e:Eff} (he:callA F roots args get base=some e) (ho: ∀b∈e.obl,b=true):SoundCall P f args get base e:=by
 unfold callA at he
 cases hc:nodup roots&&roots.all (okRoot get)with
 |false=>rw[hc]at he;cases he
 |true=>
 rw[hc]at he
 simp only[cond_true]at he
 simp only[Bool.and_eq_true,List.all_eq_true]at hc
 obtain⟨hnd,hok⟩:=hc
 split at he
 ·cases he
 rename_i cargs o vd hcv
 split at he
 ·cases he
 rename_i res h1 o' hmod
 cases hc:Nat.ble roots.length h1.length&&Nat.ble h1.length (roots.length+8)&&(!vd||(res.vfree&&h1.all Slot.vfree))&&h1.all Slot.plain with
 |false=>rw[hc]at he;cases he
 |true=>
 rw[hc]at he
 simp only[cond_true,Option.some.injEq]at he
 subst he
 simp only[Bool.and_eq_true,Nat.ble_eq]at hc
 obtain⟨⟨⟨hml,hmh⟩,hvf⟩,hplain⟩:=hc
 refine⟨(hF _ _ _ _ _ hmod (fun b hb=>ho b (List.mem_append_right _ hb))).1, ?_⟩
 intro X w0 w M h ρ mm hg hbase vs hvl hva
 dsimp only at ho
 have hlive: ∀(k id:Nat),roots[k]? =some id→ ∃c,get id=.live c∧Heap.get h id=.live c∧ ∀e n g,c≠ .recs e n g:=by
  intro k id hk
  have:=hok id (List.mem_of_getElem? hk)
  simp only[okRoot,Bool.and_eq_true,alive]at this
  cases hgi:get id with
  |live c=>rw[hgi]at this;exact⟨c,rfl,hg _ _ hgi,fun e n g hc=>by subst hc;simp[Slot.plain]at this⟩
  |unborn=>rw[hgi]at this;simp at this
  |dead=>rw[hgi]at this;simp at this
 have hρ0: ∀(k id:Nat),roots[k]? =some id→renRho h roots ρ k=ρ id:=by
  intro k id hk
  obtain⟨c,_,h2,h3⟩:=hlive k id hk
  unfold renRho;rw[hk];dsimp only;rw[h2]
  cases c with
  |recs e n g=>exact absurd rfl (h3 e n g)
  |_=>rfl
 have hρ0n: ∀(k:Nat),roots[k]? =none→renRho h roots ρ k=.unborn:=by
  intro k hk;unfold renRho;rw[hk]
 generalize hr0:renRho h roots ρ=ρ0 at*
 have hren:Renames roots ρ ρ0:=by rw[←hr0];exact renRho_renames _ _ _
 have hrow: ∀(k b:Nat),ρ0 k=.row b→ ∃id:Nat,roots[k]? =some id∧ρ id=.row b:=fun k b hk=>by rw[←hr0]at hk;exact renRho_row hk
 have hlv0: ∀b,liveB ρ0 b→liveB ρ b:=fun b ⟨k,hk⟩=>by obtain⟨id,_,h2⟩:=hrow k b hk;exact⟨id,h2⟩
 let Y:Nat→Prop:=fun b=>vd=false∧(liveB ρ b∨X b)∧ ¬liveB ρ0 b
 have hL: ∀b,(liveB ρ0 b∨Y b)→(liveB ρ b∨X b):=fun b hb=>hb.elim (fun h'=> .inl (hlv0 b h')) (fun h'=>h'.2.1)
 have hmap:(roots.map fun id=>(get id).ren roots)=roots.map fun id=>(Heap.get h id).ren roots:=by
  apply List.map_congr_left
  intro id hid
  obtain⟨k,hk⟩:=List.getElem?_of_mem hid
  obtain⟨c,c1,c2,_⟩:=hlive k id hk
  rw[c1,c2]
 rw[hmap]at hmod
 have m0:Mem Y w (liveB ρ0) (roots.map fun id=>(Heap.get h id).ren roots) ρ0 w:=by
  refine⟨fun k=> ?_,fun i j b hi hj=> ?_,fun k b hk=> .inr ⟨k,hk⟩,rfl,rfl,rfl,Nat.le_refl _,fun _ _ _=>rfl,fun b hb=>⟨?_,hb.2.2⟩⟩
  ·have:=mm.slot_ren (l:=roots) (Y:=Y) (fun b hb=>hb.2.1) k
   rw[hr0]at this;exact this
  ·have:=(mm.ren hnd).inj
   rw[hr0]at this;exact this i j b hi hj
  ·rcases hb.2.1 with⟨id,h'⟩|h'
   ·exact mm.lt h'
   ·have:=(mm.foreign b h').1;have:=mm.size;omega
 obtain⟨hcl,hca⟩:=cvAll_sound mm hg hren hrow hL (fun q=>vs.getD q undef) hcv (fun b hb=>ho b (List.mem_append_left _ hb)) (fun hv b hb=>by rw[hb.1]at hv;cases hv) hva
 have hcall:=(hF _ _ _ _ _ hmod (fun b hb=>ho b (List.mem_append_right _ hb))).2 m0 vs (by rw[hcl,hvl]) (fun q hq=>hca q (by rw[←hcl];exact hq))
 refine Calls.mono hcall ?_
 rintro e' w' ⟨v,ρ1,rfl,mb,im,m1,hv⟩
 have hunb: ∀i,i<8→ρ (base+i)=.unborn:=by
  intro i hi
  have hs:=mm.slot (base+i);rw[(hbase i hi).1]at hs
  cases hx:ρ (base+i)<;>rw[hx]at hs<;>first|rfl|exact hs.elim
 have htl:(roots++rangeL 8 base).length=roots.length+8:=by simp[rangeL_len]
 have htg1: ∀(k id:Nat),roots[k]? =some id→(roots++rangeL 8 base)[k]? =some id:=by
  intro k id hk
  rw[List.getElem?_append_left (List.getElem?_eq_some_iff.1 hk).1];exact hk
 have htg: ∀(k id:Nat),(roots++rangeL 8 base)[k]? =some id→roots[k]? =some id∨(roots.length≤k∧ ∃i,i<8∧id=base+i∧k=roots.length+i):=by
  intro k id hk
  rw[List.getElem?_append]at hk
  split at hk
  ·exact .inl hk
  ·rename_i hge
   rw[rangeL_get]at hk
   split at hk
   ·rename_i hi
    injection hk with hk
    exact .inr ⟨by omega,_,hi,hk.symm,by omega⟩
   ·cases hk
 have hnt:nodup (roots++rangeL 8 base)=true:=by
  refine nodup_of fun i j x hi hj=> ?_
  have no: ∀(k i':Nat),i'<8→roots[k]? =some (base+i')→False:=fun k i' hi' hk=>by
   obtain⟨c,_,c2,_⟩:=hlive k _ hk
   rw[(hbase i' hi').1]at c2;cases c2
  rcases htg i x hi with hi'|⟨_,i',i1,i2,i3⟩<;>rcases htg j x hj with hj'|⟨_,j',j1,j2,j3⟩
  ·exact nodup_idx hnd hi' hj'
  ·subst j2;exact(no i j' j1 hi').elim
  ·subst i2;exact(no j i' i1 hj').elim
  ·omega
 generalize htdef:roots++rangeL 8 base=T at*
 have hidx: ∀(k id:Nat),T[k]? =some id↔idx? T id=some k:=fun k id=>⟨fun h=>idx?_some hnt h,idx?_spec⟩
 let ρ':Rho:=fun id=>match idx? T id with
  |some k=>ρ1 k
  |none=>ρ id
 have hin: ∀(k id:Nat),T[k]? =some id→ρ' id=ρ1 k:=fun k id hk=>by
  show(match idx? T id with|some k=>ρ1 k|none=>ρ id)=ρ1 k
  rw[(hidx k id).1 hk]
 have hout: ∀id,idx? T id=none→ρ' id=ρ id:=fun id hk=>by
  show(match idx? T id with|some k=>ρ1 k|none=>ρ id)=ρ id
  rw[hk]
 have hk1: ∀k,ρ1 k≠ .unborn→k<h1.length:=by
  intro k hk
  rcases Nat.lt_or_ge k h1.length with h'|h'
  ·exact h'
  ·have hs:=m1.slot k;rw[Heap.get_ge h']at hs
   cases hx:ρ1 k<;>rw[hx]at hs<;>first|exact absurd hx hk|exact hs.elim
 have hbacks:Backs T ρ1 ρ':=by
  intro k hk
  have hlt:=hk1 k hk
  have hkT:k<T.length:=by omega
  have:T[k]? =some (T.getD k 0):=by simp[List.getD_eq_getElem?_getD,List.getElem?_eq_getElem hkT]
  exact hin k _ this
 have hnot0: ∀id b,idx? T id=none→ρ id=.row b→ ¬liveB ρ0 b:=by
  rintro id b hid hb ⟨k,hk⟩
  obtain⟨j,j1,j2⟩:=hrow k b hk
  have:=mm.inj id j b hb j2
  subst this
  rw[(hidx k id).1 (htg1 k id j1)]at hid;cases hid
 have hown1: ∀k b,ρ1 k=.row b→w.heap.size≤b∨liveB ρ b:=fun k b hk=>(m1.own k b hk).imp id (hlv0 b)
 have hmono:Mono w ρ w' ρ':=by
  refine⟨fun b hb hl=>m1.keep b hb (fun h'=>hl (hlv0 b h')),mb.shape,mb.size,fun id hd=> ?_,fun id hd=> ?_,fun id b hd=> ?_,fun id b hd=> ?_⟩
  ·cases hi:idx? T id with
   |none=>rw[hout id hi];exact hd
   |some k=>
    have hk:=idx?_spec hi
    rw[hin k id hk]
    rcases htg k id hk with h'|⟨_,i,i1,i2,_⟩
    ·exact im.dead k (by rw[hρ0 k id h'];exact hd)
    ·subst i2;rw[hunb i i1]at hd;cases hd
  ·cases hi:idx? T id with
   |none=>rw[hout id hi];exact .inl hd
   |some k=>
    have hk:=idx?_spec hi
    rw[hin k id hk]
    rcases htg k id hk with h'|⟨_,i,i1,i2,_⟩
    ·exact im.nil k (by rw[hρ0 k id h'];exact hd)
    ·subst i2;rw[hunb i i1]at hd;cases hd
  ·cases hi:idx? T id with
   |none=>rw[hout id hi];exact .inl hd
   |some k=>
    have hk:=idx?_spec hi
    rw[hin k id hk]
    rcases htg k id hk with h'|⟨_,i,i1,i2,_⟩
    ·exact im.at_ k b (by rw[hρ0 k id h'];exact hd)
    ·subst i2;rw[hunb i i1]at hd;cases hd
  ·cases hi:idx? T id with
   |none=>rw[hout id hi]at hd;exact .inl ⟨id,hd⟩
   |some k=>
    rw[hin k id (idx?_spec hi)]at hd
    exact(hown1 k b hd).symm
 have hLb:(∀b,(liveB ρ' b∨X b)→(liveB ρ1 b∨Y b))∨(res.vfree=true∧h1.all Slot.vfree=true):=by
  cases hvd:vd with
  |true=>
   rw[hvd]at hvf
   simp only[Bool.not_true,Bool.false_or,Bool.and_eq_true]at hvf
   exact .inr hvf
  |false=>
   refine .inl fun b hb=> ?_
   rcases hb with⟨id,hid⟩|hx
   ·cases hi:idx? T id with
    |some k=>rw[hin k id (idx?_spec hi)]at hid;exact .inl ⟨k,hid⟩
    |none=>
     rw[hout id hi]at hid
     exact .inr ⟨hvd,.inl ⟨id,hid⟩,hnot0 id b hi hid⟩
   ·refine .inr ⟨hvd,.inr hx,fun⟨k,hk⟩=> ?_⟩
    obtain⟨j,_,j2⟩:=hrow k b hk
    exact mm.notX j2 hx
 refine⟨v,ρ',rfl,hmono,⟨fun id=> ?_,fun i j b hi hj=> ?_,fun id b hd=> ?_,by rw[m1.os,mm.os],by rw[m1.tape,mm.tape],by rw[m1.output,mm.output],Nat.le_trans mm.size m1.size,
  fun k hk hM=> ?_,mm.foreign⟩,AVR.back hbacks hv (hLb.imp id And.left)⟩
 ·have hltT: ∀x∈T,x<h.length:=by
   intro x hx
   obtain⟨k,hk⟩:=List.getElem?_of_mem hx
   rcases htg k x hk with h'|⟨_,i,i1,i2,_⟩
   ·obtain⟨c,_,c2,_⟩:=hlive k x h'
    exact Heap.lt_of_live (by rw[c2];simp)
   ·subst i2;exact(hbase i i1).2
  rw[setH_zip T T h1 h id hnt hltT]
  cases hi:idx? T id with
  |none=>
   rw[hout id hi]
   exact(mm.slot id).mono hmono fun b hb=>m1.keep b (mm.lt hb) (hnot0 id b hi hb)
  |some k=>
   have hk:=idx?_spec hi
   rw[hin k id hk]
   have hback:=SlotR.back hbacks (Y:=X) (all_get rfl hplain k) (m1.slot k) (hLb.imp (fun x=>x) fun h'=>all_get rfl h'.2 k)
   dsimp only
   split
   ·exact hback
   ·rename_i hge
    have hge:h1.length≤k:=by omega
    rw[Heap.get_ge hge]at hback
    have:Heap.get h id=.unborn:=by
     rcases htg k id hk with h'|⟨_,i,i1,i2,_⟩
     ·have:=(List.getElem?_eq_some_iff.1 h').1;omega
     ·subst i2;exact(hbase i i1).1
    rw[this];exact hback
 ·cases hi1:idx? T i with
  |some k=>
   rw[hin k i (idx?_spec hi1)]at hi
   cases hj1:idx? T j with
   |some k'=>
    rw[hin k' j (idx?_spec hj1)]at hj
    have:=m1.inj k k' b hi hj
    subst this
    have a1:=idx?_spec hi1;have a2:=idx?_spec hj1
    rw[a1]at a2;injection a2
   |none=>
    rw[hout j hj1]at hj
    rcases m1.own k b hi with h'|h'
    ·have:=mm.lt hj;omega
    ·exact absurd h' (hnot0 j b hj1 hj)
  |none=>
   rw[hout i hi1]at hi
   cases hj1:idx? T j with
   |some k'=>
    rw[hin k' j (idx?_spec hj1)]at hj
    rcases m1.own k' b hj with h'|h'
    ·have:=mm.lt hi;omega
    ·exact absurd h' (hnot0 i b hi1 hi)
   |none=>rw[hout j hj1]at hj;exact mm.inj i j b hi hj
 ·cases hi:idx? T id with
  |none=>rw[hout id hi]at hd;exact mm.own id b hd
  |some k=>
   rw[hin k id (idx?_spec hi)]at hd
   rcases hown1 k b hd with h'|⟨j,hj⟩
   ·have:=mm.size;exact .inl (by omega)
   ·exact mm.own j b hj
 ·rw[m1.keep k (by have:=mm.size;omega) (fun h'=> ?_),mm.keep k hk hM]
  obtain⟨j,hj⟩:=hlv0 k h'
  rcases mm.own j k hj with h''|h''
  ·omega
  ·exact hM h''
end Go.Proofs.YthapjdpkelihiaaGreat.Am
end
section
namespace Go.Proofs.YthapjdpkelihiaaGreat.Am
structure Entry where
 f:Nat
 pos:List Nat
 F:Model
def rootsOf (pos:List Nat) (args:List AV) (get:Get):List Nat:=
 let l:=dedup [] (pos.flatMap fun p=>(args.getD p .any).ids)
 dedup l (l.flatMap fun id=>slotIds (get id))
def ctOf:List Entry→CT
 |[]=>fun _ _ _ _=>none
 |e::r=>fun f args get base=>if f=e.f then callA e.F (rootsOf e.pos args get) args get base else ctOf r f args get base
def EntriesOk (P:Program) (l:List Entry):Prop:= ∀e∈l,ModelOk P e.f e.F
theorem EntriesOk.nil (P:Program):EntriesOk P []:=fun e h=>by cases h
theorem EntriesOk.cons {P:Program} {e:Entry} {l:List Entry} (h:ModelOk P e.f e.F) (r:EntriesOk P l):EntriesOk P (e::l):=by
 intro x hx
 rcases List.mem_cons.1 hx with rfl|hx
 ·exact h
 ·exact r x hx
theorem EntriesOk.append {P:Program} {a b:List Entry} (h:EntriesOk P a) (r:EntriesOk P b):EntriesOk P (a++b):=by
 intro x hx
 rcases List.mem_append.1 hx with hx|hx
 ·exact h x hx
 ·exact r x hx
theorem ctOf_ok {P:Program}: ∀ {l:List Entry},EntriesOk P l→CtOk P (ctOf l)
 |[],_=>fun f args get base e h=>by simp[ctOf]at h
 |x::l,hl=>fun f args get base e h ho=>by
  simp only[ctOf]at h
  split at h
  ·rename_i e;subst e
   exact callA_sound (hl x List.mem_cons_self) h ho
  ·exact ctOf_ok (fun y hy=>hl y (List.mem_cons_of_mem _ hy)) f args get base e h ho
def There (P:Program) (f:FuncId):Prop:= ∃fn,P.funcs[f]? =some fn∧fn.body.isSome=true∧(fn.name== "runtime.NumGoroutine")=false
def Cell.lenOk:Cell→Prop
 |.view _ c len es _=>len*es=c.size
 |_=>True
def AV.lenOk:AV→Prop
 |.c x=>x.lenOk
 |.agg cs=> ∀x∈cs,x.lenOk
 |_=>True
theorem CR0.lenOk {w:World} {L:Nat→Prop} {ρ:Rho} {c:Cell} {v:Value} (h:CR0 w L ρ c v):c.lenOk:=by
 cases h<;>first|trivial|assumption|skip
 rename_i hz _ _ _;simp[Cell.lenOk,hz]
theorem AVR.lenOk {X:Nat→Prop} {w:World} {ρ:Rho} {x:AV} {v:Value} (h:AVR X w ρ x v):x.lenOk:=by
 cases h with
 |any=>trivial
 |c x v h=>exact CR0.lenOk h
 |agg cs vs hs h=>
  intro x hx
  obtain⟨i,hi⟩:=List.getElem?_of_mem hx
  have hlt:=(List.getElem?_eq_some_iff.1 hi).1
  have:=CR0.lenOk (h i hlt)
  rw[List.getD_eq_getElem?_getD,hi]at this
  exact this
 |tup=>trivial
theorem Meets.len {P:Program} {f:FuncId} {args:List AV} {h:List Slot} {res:AV} {h':List Slot} (hex:There P f) (hm:(∀x∈args,x.lenOk)→Meets P f args h res h'):Meets P f args h res h':=by
 refine⟨hex,fun {X w0 ρ0} m vs hl hv=> ?_⟩
 refine(hm fun x hx=> ?_).2 m vs hl hv
 obtain⟨i,hi⟩:=List.getElem?_of_mem hx
 have hlt:=(List.getElem?_eq_some_iff.1 hi).1
 have:=(hv i hlt).lenOk
 rw[List.getD_eq_getElem?_getD,hi]at this
 exact this
end Go.Proofs.YthapjdpkelihiaaGreat.Am
end
section
namespace Go.Proofs.YthapjdpkelihiaaGreat.Am
def insN (x:Nat):List Nat→List Nat
 |[]=>[x]
 |y::r=>bif Nat.blt x y then x::y::r else bif x==y then y::r else y::insN x r
def uni:List Nat→List Nat→List Nat
 |[],b=>b
 |x::r,b=>insN x (uni r b)
def del (x:Nat) (l:List Nat):List Nat:=l.filter fun y=> !(x==y)
def tmpOf:Operand→List Nat
 |.tmp t=>[t]
 |_=>[]
def useOf (ops:Array Oper) (o:Oper):List Nat:=
 (operandsOf o).flatMap tmpOf++(match o.guard with
  |some (j,_)=>match(ops[j]?).bind (·.dst)with|some d=>[d]|none=>[]
  |none=>[])
def lvOps (ops:Array Oper):List Oper→List Nat→List Nat
 |[],out=>out
 |o::r,out=>
  let l:=lvOps ops r out
  let l:=match o.dst with
   |some d=>del d l
   |none=>l
  uni (useOf ops o) l
def exL (ex:List (Nat×List Nat)) (id:Nat):List Nat:=
 match ex with
 |[]=>[]
 |(k,l)::r=>bif k==id then l else exL r id
def lv:Code→List Nat→List (Nat×List Nat)→List Nat→List Nat
 |.ret,_,_,ret=>ret
 |.exit id,_,ex,_=>exL ex id
 |.region _ ops _,out,_,_=>lvOps ops ops.toList out
 |.seq a b,out,ex,ret=>lv a (lv b out ex ret) ex ret
 |.cond x a b,out,ex,ret=>uni (tmpOf x) (uni (lv a out ex ret) (lv b out ex ret))
 |.block id c,out,ex,ret=>lv c out ((id,out)::ex) ret
 |.loop c,out,ex,ret=>lv c [] ex ret
 |_,out,_,_=>out
def exits:Code→List Nat
 |.exit id=>[id]
 |.seq a b=>exits a++exits b
 |.cond _ a b=>exits a++exits b
 |.block _ c=>exits c
 |.loop c=>exits c
 |_=>[]
def returns:Code→Bool
 |.ret=>true
 |.seq a b=>returns a||returns b
 |.cond _ a b=>returns a||returns b
 |.block _ c=>returns c
 |.loop c=>returns c
 |_=>false
def lvB (id:Nat):Code→List Nat→List (Nat×List Nat)→List Nat→Option (List Nat×List Nat)
 |.seq a b,out,ex,ret=>match lvB id a (lv b out ex ret) ex ret with
  |some r=>some r
  |none=>lvB id b out ex ret
 |.cond _ a b,out,ex,ret=>match lvB id a out ex ret with
  |some r=>some r
  |none=>lvB id b out ex ret
 |.block k c,out,ex,ret=>bif k==id then some (lv c out ((k,out)::ex) ret,uni out (uni (bif returns c then ret else []) ((exits c).foldl (fun l k=>uni (exL ex k) l) [])))else lvB id c out ((k,out)::ex) ret
 |.loop c,out,ex,ret=>lvB id c (lv c [] ex ret) ex ret
 |_,_,_,_=>none
def retL:List ResultVar→List Nat
 |[]=>[]
 |.tmp t::r=>insN t (retL r)
 |.cell a _::r=>insN a (retL r)
def codeOf (fn:Func):Code:=match fn.body with|some c=>c|none=> .skip
def liveH (fn:Func) (id:Nat):List Nat:=match lvB id (codeOf fn) (retL fn.results.toList) [] (retL fn.results.toList)with|some r=>r.1|none=>[]
def liveB' (fn:Func) (id:Nat):List Nat:=match lvB id (codeOf fn) (retL fn.results.toList) [] (retL fn.results.toList)with|some r=>r.2|none=>[]
def putAll:List (Nat×AV)→List AV→List AV
 |[],l=>l
 |(t,v)::r,l=>putAll r (l.set t v)
def stOf (n:Nat) (l:List (Nat×AV)) (heap:List Slot):St:= {tmps:=putAll l (List.replicate n .any),heap}
end Go.Proofs.YthapjdpkelihiaaGreat.Am
end
section
namespace Go.Proofs.YthapjdpkelihiaaGreat.Am
def isNormal:Ex→Bool
 |.normal=>true
 |_=>false
def roundR (m:Nat) (live liveX:List Nat) (r:Option Out):Option (Ex×Bool×List Prop×St):=
 r.map fun o=>(o.ex,allL o.obl,o.eqs,fit m (bif isNormal o.ex then live else liveX) o.st)
section
variable {P : Program} {tt : Tab} (hT : TTok P tt) {ct : CT} (hct : CtOk P ct) (hmix : P.follows .mixedOrders = true)
include hT hct hmix
theorem Good.roundsR {m id:Nat} {body:Code} {α:Type} (Inv:α→Prop) (I:α→St) (μ:α→Nat) (live liveX:List Nat) (ex:α→Ex) (post:α→St) (lc:α→List (Nat×LC))
  (hlc: ∀x,Inv x→LcOk P m (lc x) body)
  (h: ∀x,Inv x→ ∃n p e b q s,roundR m live liveX (evalC tt ct (lc x) m n body (I x) p)=some (e,b,q,s)∧b=true∧(∀x∈q,x)∧
   ((e=.normal∧ ∃y,Inv y∧μ y<μ x∧s=I y∧ex y=ex x∧post y=post x)∨(e=.exit id∧ex x=.normal∧s=post x)∨(e≠ .normal∧e≠ .exit id∧ex x=e∧s=post x))):
  ∀x,Inv x→Good P m (.block id (.loop body)) (I x) fun e t=>e=ex x∧t=post x:=by
 refine Good.rounds hT hct hmix Inv I μ live liveX ex post lc hlc fun x hx=> ?_
 obtain⟨n,p,e,b,q,s,hr,hb,hq,hc⟩:=h x hx
 obtain⟨o,ho,h1⟩:=Option.map_eq_some_iff.1 hr
 simp only[Prod.mk.injEq]at h1
 obtain⟨rfl,rfl,rfl,rfl⟩:=h1
 refine⟨n,p,o,ho,allL_spec hb,hq, ?_⟩
 rcases hc with⟨h1,y,hy,hm,hs,e1,e2⟩|⟨h1,h2,h3⟩|⟨h1,h2,h3,h4⟩
 ·rw[h1]at hs
  exact .inl ⟨h1,y,hy,hm,hs,e1,e2⟩
 ·rw[h1]at h3
  exact .inr (.inl ⟨h1,h2,h3⟩)
 ·refine .inr (.inr ⟨h1,h2,h3, ?_⟩)
  have:isNormal o.ex=false:=by cases hx:o.ex<;>first|rfl|exact absurd hx h1
  rw[this]at h4;exact h4
theorem Good.roundsN {m id:Nat} {body:Code} {α:Type} (Inv:α→Prop) (I:α→St) (μ:α→Nat) (live liveX:List Nat) (post:α→St) (lc:α→List (Nat×LC))
  (hlc: ∀x,Inv x→LcOk P m (lc x) body)
  (h: ∀x,Inv x→ ∃n p e b q s,roundR m live liveX (evalC tt ct (lc x) m n body (I x) p)=some (e,b,q,s)∧b=true∧(∀x∈q,x)∧
   ((e=.normal∧ ∃y,Inv y∧μ y<μ x∧s=I y∧post y=post x)∨(e=.exit id∧s=post x))):
  ∀x,Inv x→Good P m (.block id (.loop body)) (I x) fun e t=>e=.normal∧t=post x:=by
 refine Good.roundsR hT hct hmix Inv I μ live liveX (fun _=> .normal) post lc hlc fun x hx=> ?_
 obtain⟨n,p,e,b,q,s,hr,hb,hq,hc⟩:=h x hx
 refine⟨n,p,e,b,q,s,hr,hb,hq, ?_⟩
 rcases hc with⟨h1,y,hy,hm,hs,e2⟩|⟨h1,h3⟩
 ·exact .inl ⟨h1,y,hy,hm,hs,rfl,e2⟩
 ·exact .inr (.inl ⟨h1,rfl,h3⟩)
end
end Go.Proofs.YthapjdpkelihiaaGreat.Am
end
section
namespace Go.Proofs.YthapjdpkelihiaaGreat.Am
theorem Meets.view {P:Program} {f:FuncId} {args:List AV} {len es:Nat} {cap:Option Nat} {c:Con} (hm:Meets P f args [] (.c (.sl 0 0 len es cap)) [.live c]) (hf:c.free=true) (hz:len*es=c.size):
  Meets P f args [] (.c (.view none c len es cap)) []:=by
 refine⟨hm.1,fun {X w0 ρ0} m vs hl hv=> ?_⟩
 refine Calls.mono (hm.2 m vs hl hv) ?_
 rintro e w' ⟨v,ρ',rfl,mb,im,m',hr⟩
 have hun: ∀id,ρ0 id=.unborn:=fun id=>by
  have hs:=m.slot id
  rw[Heap.get_ge (by simp)]at hs
  cases hx:ρ0 id<;>rw[hx]at hs<;>first|rfl|exact hs.elim
 have hnl: ∀b, ¬liveB ρ0 b:=fun b ⟨id,h⟩=>by rw[hun id]at h;cases h
 have mb2:MonoB w' (fun b=>liveB ρ' b∨X b) w' (fun b=>liveB ρ0 b∨X b):=⟨fun _ _ _=>rfl,fun _ _=>rfl,Nat.le_refl _,fun b hb=> .inl (hb.elim (fun h=>absurd h (hnl b)) .inr)⟩
 refine⟨v,ρ0,rfl,⟨mb.keep,mb.shape,mb.size,fun b hb=> .inl hb⟩,IdMono.refl _,⟨fun id=> ?_,(fun i j b hi _=>absurd (hun i) (by rw[hi];simp)),(fun id b hb=>absurd (hun id) (by rw[hb];simp)),m'.os,m'.tape,m'.output,m'.size,m'.keep,m'.foreign⟩, ?_⟩
 ·rw[Heap.get_ge (by simp),hun id];trivial
 ·have hs:Heap.get [Slot.live c] 0=.live c:=rfl
  refine .c _ _ ?_
  rcases live_sl m' hs (avr_c hr)with⟨b,k,ty,n,hb,rfl,⟨cs,ty',hrow,hsz,hcs⟩,hsh,hn,hl',hcap⟩|⟨a,rfl,rfl,hcap⟩
  ·rw[Nat.zero_mul]
   refine .view none c len es cap b 0 k (fun q=>cs.getD q undef) (fun _ h=> ?_) (fun q hq=> ?_) (fun q hq=>((hcs q hq).free (free_cell hf q)).mono mb2 (IdMono.noIds _)) hz hl' hcap (fun _ h=>by cases h)
   ·rcases h with h|h
    ·exact hnl b h
    ·exact m'.notX hb h
   ·have hq':q<cs.size:=by omega
    simp[World.cell?,hrow,Array.getD,hq']
  ·exact .viewNone none c es cap a 0 (by omega) hcap (fun _ h=>by cases h) (fun _=>rfl)
end Go.Proofs.YthapjdpkelihiaaGreat.Am
end
section
namespace Go.Proofs.YthapjdpkelihiaaGreat.Am
def tt:Tab:=[
 none,
 none,
 some ⟨1,8,false,[.int .i64 0],.ints .i64,.int .i64⟩,
 some ⟨1,8,false,[.int .i64 0],.ints .i64,.int .i64⟩,
 some ⟨1,1,false,[.bool false],.bools,.bool⟩,
 some ⟨1,1,false,[.int .u8 0],.ints .u8,.int .u8⟩,
 some ⟨1,1,false,[.int .u8 0],.ints .u8,.int .u8⟩,
 some ⟨4,24,true,[.int .i64 0,.int .i64 0,.bool false,.int .u8 0],.cells,.struct [(0,2),(1,3),(2,4),(3,6)]⟩,
 some ⟨4,24,true,[.int .i64 0,.int .i64 0,.bool false,.int .u8 0],.cells,.struct [(0,2),(1,3),(2,4),(3,6)]⟩,
 some ⟨1,16,false,[.str ByteArray.empty],.cells,.str⟩,
 some ⟨1,16,false,[.str ByteArray.empty],.cells,.str⟩,
 some ⟨1,16,false,[.str ByteArray.empty],.cells,.str⟩,
 some ⟨1,8,false,[.int .u64 0],.ints .u64,.int .u64⟩,
 some ⟨2,24,true,[.str ByteArray.empty,.int .u64 0],.cells,.struct [(0,9),(1,12)]⟩,
 some ⟨2,24,true,[.str ByteArray.empty,.int .u64 0],.cells,.struct [(0,9),(1,12)]⟩,
 some ⟨1,8,false,[.nilp],.cells,.ptr 224⟩,
 some ⟨1,8,false,[.nilp],.cells,.ptr 227⟩,
 some ⟨1,8,false,[.nilp],.cells,.ptr 235⟩,
 some ⟨1,8,true,[.nilp],.cells,.struct [(0,17)]⟩,
 some ⟨1,8,true,[.nilp],.cells,.struct [(0,17)]⟩,
 none,
 some ⟨1,4,false,[.int .i32 0],.ints .i32,.int .i32⟩,
 some ⟨1,24,false,[.nils],.ivs .u8,.slice 5⟩,
 some ⟨1,24,false,[.nils],.ivs .i64,.slice 3⟩,
 some ⟨1,24,false,[.nils],.cells,.slice 4⟩,
 some ⟨4,80,true,[.int .i64 0,.nils,.nils,.nils],.cells,.struct [(0,3),(1,23),(2,23),(3,24)]⟩,
 some ⟨4,80,true,[.int .i64 0,.nils,.nils,.nils],.cells,.struct [(0,3),(1,23),(2,23),(3,24)]⟩,
 some ⟨8,128,true,[.int .i64 0,.nils,.nils,.nils,.bool false,.int .i64 0,.nils,.int .i64 0],.cells,.struct [(0,26),(4,4),(5,3),(6,23),(7,3)]⟩,
 some ⟨8,128,true,[.int .i64 0,.nils,.nils,.nils,.bool false,.int .i64 0,.nils,.int .i64 0],.cells,.struct [(0,26),(4,4),(5,3),(6,23),(7,3)]⟩,
 none,
 none,
 none,
 none,
 none,
 none,
 none,
 none,
 none,
 none,
 none,
 none,
 none,
 none,
 none,
 none,
 none,
 none,
 none,
 some ⟨4,80,true,[.int .i64 0,.nils,.nils,.nils],.cells,.struct [(0,3),(1,23),(2,23),(3,24)]⟩,
 some ⟨8,128,true,[.int .i64 0,.nils,.nils,.nils,.bool false,.int .i64 0,.nils,.int .i64 0],.cells,.struct [(0,48),(4,4),(5,3),(6,23),(7,3)]⟩,
 some ⟨8,128,true,[.int .i64 0,.nils,.nils,.nils,.bool false,.int .i64 0,.nils,.int .i64 0],.cells,.struct [(0,48),(4,4),(5,3),(6,23),(7,3)]⟩,
 none,
 none,
 none,
 none,
 some ⟨1,24,false,[.nils],.cells,.slice 108⟩,
 none,
 none,
 none,
 none,
 none,
 none,
 none,
 none,
 none,
 none,
 none,
 some ⟨1,8,false,[.nilp],.cells,.ptr 111⟩,
 none,
 none,
 none,
 none,
 none,
 none,
 none,
 none,
 none,
 none,
 none,
 none,
 none,
 none,
 none,
 none,
 none,
 none,
 none,
 some ⟨1,8,false,[.int .i64 0],.ints .i64,.int .i64⟩,
 some ⟨4,32,true,[.int .i64 0,.int .i64 0,.int .i64 0,.int .i64 0],.ints .i64,.arr 4 87⟩,
 some ⟨4,32,true,[.int .i64 0,.int .i64 0,.int .i64 0,.int .i64 0],.ints .i64,.arr 4 87⟩,
 none,
 none,
 none,
 none,
 none,
 none,
 none,
 none,
 none,
 none,
 none,
 none,
 none,
 none,
 none,
 none,
 none,
 some ⟨3,24,true,[.int .i64 0,.int .i64 0,.int .i64 0],.ints .i64,.struct [(0,3),(1,3),(2,3)]⟩,
 some ⟨3,24,true,[.int .i64 0,.int .i64 0,.int .i64 0],.ints .i64,.struct [(0,3),(1,3),(2,3)]⟩,
 none,
 some ⟨2,32,true,[.nils,.int .i64 0],.cells,.struct [(0,22),(1,3)]⟩,
 some ⟨2,32,true,[.nils,.int .i64 0],.cells,.struct [(0,22),(1,3)]⟩,
 none,
 none,
 none,
 none,
 none,
 none,
 none,
 none,
 none,
 none,
 some ⟨3,56,true,[.int .i64 0,.nils,.nils],.cells,.struct [(0,3),(1,23),(2,23)]⟩,
 some ⟨3,56,true,[.int .i64 0,.nils,.nils],.cells,.struct [(0,3),(1,23),(2,23)]⟩,
 none,
 none,
 none,
 none,
 none,
 none,
 some ⟨1,8,false,[.int .u64 0],.ints .u64,.int .u64⟩,
 none,
 none,
 none,
 none,
 none,
 none,
 none,
 none,
 none,
 none,
 none,
 none,
 none,
 none,
 none,
 none,
 none,
 some ⟨1,24,false,[.nils],.cells,.slice 23⟩,
 none,
 none,
 none,
 none,
 none,
 none,
 none,
 none,
 none,
 none,
 none,
 some ⟨1,4,false,[.int .u32 0],.ints .u32,.int .u32⟩,
 none,
 none,
 some ⟨1,8,false,[.int .u64 0],.ints .u64,.int .u64⟩,
 none,
 none,
 none,
 none,
 none,
 none,
 none,
 none,
 none,
 none,
 some ⟨1,24,false,[.nils],.cells,.slice 89⟩,
 some ⟨1,24,false,[.nils],.cells,.slice 89⟩,
 none,
 some ⟨1,8,false,[.nilp],.cells,.ptr 182⟩,
 none,
 some ⟨1,24,false,[.nils],.cells,.slice 187⟩,
 some ⟨1,24,false,[.nils],.cells,.slice 185⟩,
 some ⟨2,48,true,[.nils,.nils],.cells,.struct [(0,180),(1,23)]⟩,
 some ⟨2,48,true,[.nils,.nils],.cells,.struct [(0,180),(1,23)]⟩,
 some ⟨8,64,true,[.int .i64 0,.int .i64 0,.int .i64 0,.int .i64 0,.int .i64 0,.int .i64 0,.int .i64 0,.int .i64 0],.ints .i64,.arr 8 87⟩,
 some ⟨12,96,true,[.int .i64 0,.int .i64 0,.int .i64 0,.int .i64 0,.int .i64 0,.int .i64 0,.int .i64 0,.int .i64 0,.int .i64 0,.int .i64 0,.int .i64 0,.int .i64 0],.ints .i64,.struct [(0,89),(4,183)]⟩,
 some ⟨12,96,true,[.int .i64 0,.int .i64 0,.int .i64 0,.int .i64 0,.int .i64 0,.int .i64 0,.int .i64 0,.int .i64 0,.int .i64 0,.int .i64 0,.int .i64 0,.int .i64 0],.ints .i64,.struct [(0,89),(4,183)]⟩,
 some ⟨5,40,true,[.int .i64 0,.int .i64 0,.int .i64 0,.int .i64 0,.int .i64 0],.ints .i64,.struct [(0,89),(4,87)]⟩,
 some ⟨5,40,true,[.int .i64 0,.int .i64 0,.int .i64 0,.int .i64 0,.int .i64 0],.ints .i64,.struct [(0,89),(4,87)]⟩,
 none,
 none,
 none,
 none,
 none,
 none,
 none,
 none,
 some ⟨1,8,false,[.int .i64 0],.ints .i64,.int .i64⟩,
 none,
 none,
 none,
 none,
 none,
 none,
 none,
 none,
 none,
 none,
 none,
 none,
 none,
 none,
 some ⟨1,24,false,[.nils],.ivs .i64,.slice 87⟩,
 none,
 some ⟨1,8,false,[.int .u64 0],.ints .u64,.int .u64⟩,
 none,
 none,
 none,
 some ⟨1,8,false,[.nilp],.cells,.ptr 3⟩,
 none,
 some ⟨1,8,false,[.nilp],.cells,.ptr 213⟩,
 none,
 none,
 none,
 some ⟨4,40,true,[.nilp,.nilp,.nilp,.str ByteArray.empty],.cells,.struct [(0,17),(1,17),(2,17),(3,9)]⟩,
 some ⟨4,40,true,[.nilp,.nilp,.nilp,.str ByteArray.empty],.cells,.struct [(0,17),(1,17),(2,17),(3,9)]⟩,
 none,
 none,
 none,
 some ⟨1,1,false,[.int .u8 0],.ints .u8,.int .u8⟩,
 some ⟨1,1,false,[.int .u8 0],.ints .u8,.int .u8⟩,
 none,
 some ⟨1,8,false,[.nilp],.cells,.ptr 5⟩,
 some ⟨1,4,false,[.int .i32 0],.ints .i32,.int .i32⟩,
 some ⟨1,4,false,[.int .i32 0],.ints .i32,.int .i32⟩,
 some ⟨11,48,true,[.int .u64 0,.int .u64 0,.int .u32 0,.int .u8 0,.int .u8 0,.int .u8 0,.int .u8 0,.nilf,.nilp,.int .i32 0,.int .i32 0],.cells,.struct [(0,12),(1,12),(2,160),(3,228),(4,5),(5,5),(6,229),(7,230),(8,231),(9,232),(10,233)]⟩,
 some ⟨11,48,true,[.int .u64 0,.int .u64 0,.int .u32 0,.int .u8 0,.int .u8 0,.int .u8 0,.int .u8 0,.nilf,.nilp,.int .i32 0,.int .i32 0],.cells,.struct [(0,12),(1,12),(2,160),(3,228),(4,5),(5,5),(6,229),(7,230),(8,231),(9,232),(10,233)]⟩,
 none]
end Go.Proofs.YthapjdpkelihiaaGreat.Am
end
section
namespace Go.Proofs.YthapjdpkelihiaaGreat.Am
theorem hT:TTok Tryz.prog tt:=ttok_of (by kernel_rfl)
theorem hmix:Tryz.prog.follows .mixedOrders=true:=by kernel_rfl
theorem meets_of {ct:CT} (hct:CtOk Tryz.prog ct) {lc:List (Nat×LC)} {fuel:Nat} {f:FuncId} {fn:Func} {args:List AV} {h:List Slot} {p:Path} {o:FOut} (hf:Tryz.prog.funcs[f]? =some fn)
  (hnm:(fn.name== "runtime.NumGoroutine")=false) (he:evalF tt ct lc fuel fn args h p=some o) (ho:o.obl=true) (hq: ∀q∈o.eqs,q) (hlc: ∀c,fn.body=some c→LcOk Tryz.prog h.length lc c):
  Meets Tryz.prog f args h o.res o.heap:=evalF_sound hT hct hmix hf hnm he ho hq hlc
end Go.Proofs.YthapjdpkelihiaaGreat.Am
end
section
namespace Go.Proofs.YthapjdpkelihiaaGreat.Am
def flgAt (bs:List Bool):Nat→Nat→List Int
 |0,_=>[]
 |k+1,i=>if bs.getD i false then(i:Int)::flgAt bs k (i+1)else flgAt bs k (i+1)
def flg (bs:List Bool):List Int:=flgAt bs bs.length 0
noncomputable abbrev f112:=Tryz.f128
def I112 (nl:Option Bool) (cap:Option Nat) (bs:List Bool) (i:Int) (n:Nat) (out:List Int):St:=
 stOf 21 [(7,.c (.view nl (.bools bs) bs.length 1 cap)),(8,.c (.int .i64 bs.length)),(9,.c (.int .i64 i)),(3,.c (.sl 0 0 n 1 none))] [.live (.ints .i64 out)]
def X112 (n:Nat) (out:List Int):St:=stOf 21 [(3,.c (.sl 0 0 n 1 none))] [.live (.ints .i64 out)]
section
variable (ct : CT) (nl : Option Bool) (cap : Option Nat) (bs : List Bool) (i : Int) (n : Nat) (out : List Int)
theorem r112_1:roundR 0 (liveH f112 0) (liveB' f112 0) (evalC tt ct [] 0 100 (bodyAt 0 (codeOf f112)) (I112 nl cap bs i n out) [(0,true),(0,true)])=
  some (.normal,(decide (i<bs.length)&&(decide (0≤i)&&(decide (i<bs.length)&&(decide (i.toNat<bs.length)&&(bs.getD i.toNat false&&(decide (1=[i].length)&&(decide (n=out.length)&&(decide (n+1≤274877906944)&&true)))))))),[],
   I112 nl cap bs (IntKind.i64.wrap (i+1)) (n+1) (out++[i])):=by kernel_rfl
theorem r112_2:roundR 0 (liveH f112 0) (liveB' f112 0) (evalC tt ct [] 0 100 (bodyAt 0 (codeOf f112)) (I112 nl cap bs i n out) [(0,true),(0,false)])=
  some (.normal,(decide (i<bs.length)&&(decide (0≤i)&&(decide (i<bs.length)&&(decide (i.toNat<bs.length)&&(!bs.getD i.toNat false&&true))))),[],
   I112 nl cap bs (IntKind.i64.wrap (i+1)) n out):=by kernel_rfl
theorem r112_3:roundR 0 (liveH f112 0) (liveB' f112 0) (evalC tt ct [] 0 100 (bodyAt 0 (codeOf f112)) (I112 nl cap bs i n out) [(0,false)])=
  some (.exit 0,(!decide (i<bs.length)&&true),[],X112 n out):=by kernel_rfl
end
theorem wrap_small {i:Int} (h0:0≤i) (h1:i<9223372036854775808):IntKind.i64.wrap i=i:=by
 simp[IntKind.wrap,IntKind.bits,IntKind.signed]
 omega
theorem flgAt_len (bs:List Bool): ∀k i,(flgAt bs k i).length≤k
 |0,_=>by simp[flgAt]
 |k+1,i=>by
  have:=flgAt_len bs k (i+1)
  simp only[flgAt];split<;>simp<;>omega
def FF112:Model:=fun args h=>
 match args,h with
 |[.c (.view nl (.bools bs) len 1 cap)],[]=>some (.c (.sl 0 0 (flg bs).length 1 none),[.live (.ints .i64 (flg bs))],[decide (bs.length≤274877906944)])
 |_,_=>none
theorem l112 {ct:CT} (hct:CtOk Tryz.prog ct) (nl:Option Bool) (cap:Option Nat) (bs:List Bool) (hl:bs.length≤274877906944):
  Good Tryz.prog 0 (.block 0 (.loop (bodyAt 0 (codeOf f112)))) (I112 nl cap bs 0 0 []) fun e t=>e=.normal∧t=X112 (flg bs).length (flg bs):=by
 have key:=Good.roundsN hT hct hmix (m:=0) (id:=0) (body:=bodyAt 0 (codeOf f112)) (α:=Nat×List Int)
  (fun x=>x.1≤bs.length∧x.2.length≤x.1∧x.2++flgAt bs (bs.length-x.1) x.1=flg bs) (fun x=>I112 nl cap bs x.1 x.2.length x.2) (fun x=>bs.length-x.1) (liveH f112 0) (liveB' f112 0)
  (fun _=>X112 (flg bs).length (flg bs)) (fun _=>[]) (fun _ _=>LcOk.nil) (fun x hx=> ?_) (0,[]) ⟨by simp,by simp,by simp[flg]⟩
 ·exact key
 ·obtain⟨i,out⟩:=x
  obtain⟨h1,h2,h3⟩:=hx
  dsimp only at h1 h2 h3⊢
  by_cases hi:i<bs.length
  ·have hk:bs.length-i=(bs.length-(i+1))+1:=by omega
   rw[hk]at h3
   simp only[flgAt]at h3
   cases hb:bs.getD i false with
   |true=>
    refine⟨_,_,_,_,_,_,r112_1 ct nl cap bs i out.length out, ?_,by simp,.inl ⟨rfl,(i+1,out++[(i:Int)]),⟨by omega,by simp;omega, ?_⟩,by dsimp only;omega, ?_,rfl⟩⟩
    ·simp[-List.getD_eq_getElem?_getD,hi,hb];omega
    ·rw[hb]at h3;simpa using h3
    ·rw[wrap_small (by omega) (by omega)];simp
   |false=>
    refine⟨_,_,_,_,_,_,r112_2 ct nl cap bs i out.length out, ?_,by simp,.inl ⟨rfl,(i+1,out),⟨by omega,by dsimp only;omega, ?_⟩,by dsimp only;omega, ?_,rfl⟩⟩
    ·simp[-List.getD_eq_getElem?_getD,hi,hb]
    ·rw[hb]at h3;simpa using h3
    ·rw[wrap_small (by omega) (by omega)];simp
  ·have hz:bs.length-i=0:=by omega
   rw[hz]at h3
   simp only[flgAt,List.append_nil]at h3
   refine⟨_,_,_,_,_,_,r112_3 ct nl cap bs i out.length out, ?_,by simp,.inr ⟨rfl,by rw[h3]⟩⟩
   simp;omega
theorem m112 {ct:CT} (hct:CtOk Tryz.prog ct):ModelOk Tryz.prog 128 FF112:=by
 intro args h res h' o he ho
 unfold FF112 at he
 split at he
 ·rename_i nl bs len cap
  simp only[Option.some.injEq,Prod.mk.injEq]at he
  obtain⟨rfl,rfl,rfl⟩:=he
  have hl:bs.length≤274877906944:=by simpa using ho
  refine Meets.len ⟨f112,by kernel_rfl,by kernel_rfl,by kernel_rfl⟩ fun hlen=> ?_
  have:len=bs.length:=by have:=hlen _ (List.mem_singleton.2 rfl);simpa [AV.lenOk,Cell.lenOk,Con.size]using this
  subst this
  exact meets_of hct (fn:=f112) (lc:=[(0,⟨liveH f112 0,I112 nl cap bs 0 0 [],.normal,X112 (flg bs).length (flg bs)⟩)]) (fuel:=100) (p:=[]) (o:=⟨_,_,true,[I112 nl cap bs 0 0 []=I112 nl cap bs 0 0 []]⟩) (by kernel_rfl) (by kernel_rfl) (by kernel_rfl) rfl
   (by simp) (fun c hc=>LcOk.cons (c:=c) (by cases hc;kernel_rfl) (by cases hc;exact l112 hct nl cap bs hl) LcOk.nil)
 ·cases he
end Go.Proofs.YthapjdpkelihiaaGreat.Am
end
section
namespace Go.Proofs.YthapjdpkelihiaaGreat.Am
def fok (n:Int):Bool:=decide (0≤n)&&decide (n≤30)
theorem fok_iff {n:Int}:fok n=true↔0≤n∧n≤30:=by simp[fok]
theorem wrap_mid {i:Int} (h0: -9223372036854775808≤i) (h1:i<9223372036854775808):IntKind.i64.wrap i=i:=by
 simp[IntKind.wrap,IntKind.bits,IntKind.signed]
 omega
theorem elt_raw (n:Int):(IntKind.i64.wrap (n.tmod 31+31)).tmod 31=n%31:=by
 have h1: -31<n.tmod 31:=Int.lt_tmod_of_pos n (by omega)
 have h2:n.tmod 31<31:=Int.tmod_lt_of_pos n (by omega)
 rw[wrap_mid (by omega) (by omega),Int.tmod_eq_emod_of_nonneg (by omega),Int.add_emod_right]
 rcases Int.le_total 0 n with h|h
 ·rw[Int.tmod_eq_emod_of_nonneg h];omega
 ·have:n.tmod 31= -((-n).tmod 31):=by rw[Int.neg_tmod];simp
  rw[this,Int.tmod_eq_emod_of_nonneg (by omega)];omega
def bet (n lo hi:Int):Bool:=decide (lo≤n)&&decide (n≤hi)
def FFbet:Model:=fun args h=>
 match args,h with
 |[.c (.int .i64 n),.c (.int .i64 lo),.c (.int .i64 hi)],[]=>some (.c (.bool (bet n lo hi)),[],[])
 |_,_=>none
theorem m117:ModelOk Tryz.prog 109 FFbet:=by
 intro args h res h' o he ho
 unfold FFbet at he
 split at he
 ·rename_i n lo hi
  simp only[Option.some.injEq,Prod.mk.injEq]at he
  obtain⟨rfl,rfl,rfl⟩:=he
  by_cases hc:n≥lo
  ·have e:evalF tt (ctOf []) [] 100 Tryz.f109 [.c (.int .i64 n),.c (.int .i64 lo),.c (.int .i64 hi)] [] [(0,true)]=some ⟨.c (.bool (bif decide (n≥lo)then decide (n≤hi)else false)),[],decide (n≥lo)&&(decide (n≥lo)&&(decide (n≥lo)&&true)),[]⟩:=by kernel_rfl
   have hr:(bif decide (n≥lo)then decide (n≤hi)else false)=bet n lo hi:=by
    have:lo≤n:=hc
    simp[bet,this]
   rw[hr]at e
   exact meets_of (ctOf_ok (EntriesOk.nil _)) (by kernel_rfl) (by kernel_rfl) e (by simp[hc]) (by simp) (fun c _=>LcOk.nil)
  ·have e:evalF tt (ctOf []) [] 100 Tryz.f109 [.c (.int .i64 n),.c (.int .i64 lo),.c (.int .i64 hi)] [] [(0,false)]=some ⟨.c (.bool false),[], !decide (n≥lo)&&(!decide (n≥lo)&&(!decide (n≥lo)&&(!decide (n≥lo)&&true))),[]⟩:=by kernel_rfl
   have hr:false=bet n lo hi:=by
    have: ¬lo≤n:=hc
    simp[bet,this]
   rw[hr]at e
   exact meets_of (ctOf_ok (EntriesOk.nil _)) (by kernel_rfl) (by kernel_rfl) e (by simp;omega) (by simp) (fun c _=>LcOk.nil)
 ·cases he
theorem m61:ModelOk Tryz.prog 52 FFbet:=by
 intro args h res h' o he ho
 unfold FFbet at he
 split at he
 ·rename_i n lo hi
  simp only[Option.some.injEq,Prod.mk.injEq]at he
  obtain⟨rfl,rfl,rfl⟩:=he
  by_cases hc:n≥lo
  ·have e:evalF tt (ctOf []) [] 100 Tryz.f52 [.c (.int .i64 n),.c (.int .i64 lo),.c (.int .i64 hi)] [] [(0,true)]=some ⟨.c (.bool (bif decide (n≥lo)then decide (n≤hi)else false)),[],decide (n≥lo)&&(decide (n≥lo)&&(decide (n≥lo)&&true)),[]⟩:=by kernel_rfl
   have hr:(bif decide (n≥lo)then decide (n≤hi)else false)=bet n lo hi:=by
    have:lo≤n:=hc
    simp[bet,this]
   rw[hr]at e
   exact meets_of (ctOf_ok (EntriesOk.nil _)) (by kernel_rfl) (by kernel_rfl) e (by simp[hc]) (by simp) (fun c _=>LcOk.nil)
  ·have e:evalF tt (ctOf []) [] 100 Tryz.f52 [.c (.int .i64 n),.c (.int .i64 lo),.c (.int .i64 hi)] [] [(0,false)]=some ⟨.c (.bool false),[], !decide (n≥lo)&&(!decide (n≥lo)&&(!decide (n≥lo)&&(!decide (n≥lo)&&true))),[]⟩:=by kernel_rfl
   have hr:false=bet n lo hi:=by
    have: ¬lo≤n:=hc
    simp[bet,this]
   rw[hr]at e
   exact meets_of (ctOf_ok (EntriesOk.nil _)) (by kernel_rfl) (by kernel_rfl) e (by simp;omega) (by simp) (fun c _=>LcOk.nil)
 ·cases he
def FFelt:Model:=fun args h=>
 match args,h with
 |[.c (.int .i64 n)],[]=>some (.c (.int .i64 (n%31)),[],[])
 |_,_=>none
theorem m177:ModelOk Tryz.prog 198 FFelt:=by
 intro args h res h' o he ho
 unfold FFelt at he
 split at he
 ·rename_i n
  simp only[Option.some.injEq,Prod.mk.injEq]at he
  obtain⟨rfl,rfl,rfl⟩:=he
  have e:evalF tt (ctOf []) [] 100 Tryz.f198 [.c (.int .i64 n)] [] []=some ⟨.c (.int .i64 ((IntKind.i64.wrap (n.tmod 31+31)).tmod 31)),[],true,[]⟩:=by kernel_rfl
  rw[elt_raw]at e
  exact meets_of (ctOf_ok (EntriesOk.nil _)) (by kernel_rfl) (by kernel_rfl) e rfl (by simp) (fun c _=>LcOk.nil)
 ·cases he
def inv (n:Int):Int:=[0,1,16,21,8,25,26,9,4,7,28,17,13,12,20,29,2,11,19,18,14,3,24,27,22,5,6,23,10,15,30].getD n.toNat 0
def FFinv:Model:=fun args h=>
 match args,h with
 |[.c (.int .i64 n)],[]=>some (.c (.int .i64 (inv n)),[],[fok n])
 |_,_=>none
theorem of31 {q:Int→Prop} (h: ∀k:Nat,k<31→q k) {n:Int} (hn:fok n=true):q n:=by
 obtain⟨h0,h1⟩:=fok_iff.1 hn
 have:=h n.toNat (by omega)
 rwa[show(n.toNat:Int)=n from by omega]at this
def allK (f:Nat→Bool):Nat→Bool
 |0=>true
 |n+1=>f n&&allK f n
theorem allK_spec {f:Nat→Bool}: ∀ {n:Nat},allK f n=true→ ∀k,k<n→f k=true
 |0,_,k,h=>absurd h (by omega)
 |n+1,h,k,hk=>by
  simp only[allK,Bool.and_eq_true]at h
  by_cases e:k=n
  ·subst e;exact h.1
  ·exact allK_spec h.2 k (by omega)
def givesInt (r:Option FOut) (n:Int):Bool:=
 match r with
 |some ⟨.c (.int .i64 m),[],true,[]⟩=>m==n
 |_=>false
theorem givesInt_spec {r:Option FOut} {n:Int} (h:givesInt r n=true):r=some ⟨.c (.int .i64 n),[],true,[]⟩:=by
 unfold givesInt at h
 split at h
 ·simp at h;subst h;rfl
 ·cases h
def T2a:List Entry:=[⟨198,[],FFelt⟩]
theorem t2a:CtOk Tryz.prog (ctOf T2a):=ctOf_ok (EntriesOk.cons (e:=⟨198,[],FFelt⟩) m177 (EntriesOk.nil _))
theorem m182:ModelOk Tryz.prog 214 FFinv:=by
 intro args h res h' o he ho
 unfold FFinv at he
 split at he
 ·rename_i n
  simp only[Option.some.injEq,Prod.mk.injEq]at he
  obtain⟨rfl,rfl,rfl⟩:=he
  refine of31 (q:=fun n=>Meets Tryz.prog _ [.c (.int .i64 n)] [] (.c (.int .i64 (inv n))) []) (fun k hk=> ?_) (ho _ (List.mem_singleton.2 rfl))
  have all:allK (fun k=>givesInt (evalF tt (ctOf T2a) [] 1000 Tryz.f214 [.c (.int .i64 k)] [] []) (inv k)) 31=true:=by kernel_rfl
  have e:=givesInt_spec (allK_spec all k hk)
  exact meets_of t2a (by kernel_rfl) (by kernel_rfl) e rfl (by simp) (fun c _=>LcOk.nil)
 ·cases he
theorem m179:ModelOk Tryz.prog 217 FFinv:=by
 intro args h res h' o he ho
 unfold FFinv at he
 split at he
 ·rename_i n
  simp only[Option.some.injEq,Prod.mk.injEq]at he
  obtain⟨rfl,rfl,rfl⟩:=he
  refine of31 (q:=fun n=>Meets Tryz.prog _ [.c (.int .i64 n)] [] (.c (.int .i64 (inv n))) []) (fun k hk=> ?_) (ho _ (List.mem_singleton.2 rfl))
  have all:allK (fun k=>givesInt (evalF tt (ctOf []) [] 1000 Tryz.f217 [.c (.int .i64 k)] [] []) (inv k)) 31=true:=by kernel_rfl
  have e:=givesInt_spec (allK_spec all k hk)
  exact meets_of (ctOf_ok (EntriesOk.nil _)) (by kernel_rfl) (by kernel_rfl) e rfl (by simp) (fun c _=>LcOk.nil)
 ·cases he
def T2:List Entry:=[⟨198,[],FFelt⟩,⟨109,[],FFbet⟩,⟨52,[],FFbet⟩,⟨214,[],FFinv⟩,⟨217,[],FFinv⟩,⟨128,[],FF112⟩]
theorem e2:EntriesOk Tryz.prog T2:=by
 intro e he
 simp only[T2,List.mem_cons,List.not_mem_nil,or_false]at he
 rcases he with rfl|rfl|rfl|rfl|rfl|rfl
 ·exact m177
 ·exact m117
 ·exact m61
 ·exact m182
 ·exact m179
 ·exact m112 (ctOf_ok (EntriesOk.nil _))
theorem t2:CtOk Tryz.prog (ctOf T2):=ctOf_ok e2
end Go.Proofs.YthapjdpkelihiaaGreat.Am
end
section
namespace Go.Proofs.YthapjdpkelihiaaGreat.Am
def FFfok:Model:=fun args h=>
 match args,h with
 |[.c (.int .i64 n)],[]=>some (.c (.bool (fok n)),[],[])
 |_,_=>none
def FFbetw (lo hi:Int):Model:=fun args h=>
 match args,h with
 |[.c (.int .i64 n)],[]=>some (.c (.bool (bet n lo hi)),[],[])
 |_,_=>none
def FFplus:Model:=fun args h=>
 match args,h with
 |[.c (.int .i64 n),.c (.int .i64 m)],[]=>some (.c (.int .i64 ((n+m)%31)),[],[fok n,fok m])
 |_,_=>none
def FFtimes:Model:=fun args h=>
 match args,h with
 |[.c (.int .i64 n),.c (.int .i64 m)],[]=>some (.c (.int .i64 ((n*m)%31)),[],[fok n,fok m])
 |_,_=>none
def FFminus:Model:=fun args h=>
 match args,h with
 |[.c (.int .i64 n),.c (.int .i64 m)],[]=>some (.c (.int .i64 ((n-m)%31)),[],[fok n,fok m])
 |_,_=>none
theorem wrap_add {n m:Int} (hn:fok n=true) (hm:fok m=true):IntKind.i64.wrap (n+m)=n+m:=by
 obtain⟨a,b⟩:=fok_iff.1 hn;obtain⟨c,d⟩:=fok_iff.1 hm
 exact wrap_mid (by omega) (by omega)
theorem wrap_sub {n m:Int} (hn:fok n=true) (hm:fok m=true):IntKind.i64.wrap (n-m)=n-m:=by
 obtain⟨a,b⟩:=fok_iff.1 hn;obtain⟨c,d⟩:=fok_iff.1 hm
 exact wrap_mid (by omega) (by omega)
theorem mul_bound {n m:Int} (hn:fok n=true) (hm:fok m=true):0≤n*m∧n*m≤900:=by
 obtain⟨a,b⟩:=fok_iff.1 hn;obtain⟨c,d⟩:=fok_iff.1 hm
 refine⟨Int.mul_nonneg a c, ?_⟩
 have:=Int.mul_le_mul b d c (by omega:(0:Int)≤30)
 omega
theorem wrap_mul {n m:Int} (hn:fok n=true) (hm:fok m=true):IntKind.i64.wrap (n*m)=n*m:=by
 obtain⟨a,b⟩:=mul_bound hn hm
 exact wrap_mid (by omega) (by omega)
theorem m118:ModelOk Tryz.prog 132 FFfok:=by
 intro args h res h' o he ho
 unfold FFfok at he
 split at he
 ·rename_i n
  simp only[Option.some.injEq,Prod.mk.injEq]at he
  obtain⟨rfl,rfl,rfl⟩:=he
  have e:evalF tt (ctOf T2) [] 100 Tryz.f132 [.c (.int .i64 n)] [] []=some ⟨.c (.bool (fok n)),[],true,[]⟩:=by kernel_rfl
  exact meets_of t2 (by kernel_rfl) (by kernel_rfl) e rfl (by simp) (fun c _=>LcOk.nil)
 ·cases he
theorem m102:ModelOk Tryz.prog 117 FFfok:=by
 intro args h res h' o he ho
 unfold FFfok at he
 split at he
 ·rename_i n
  simp only[Option.some.injEq,Prod.mk.injEq]at he
  obtain⟨rfl,rfl,rfl⟩:=he
  have e:evalF tt (ctOf T2) [] 100 Tryz.f117 [.c (.int .i64 n)] [] []=some ⟨.c (.bool (fok n)),[],true,[]⟩:=by kernel_rfl
  exact meets_of t2 (by kernel_rfl) (by kernel_rfl) e rfl (by simp) (fun c _=>LcOk.nil)
 ·cases he
theorem m68:ModelOk Tryz.prog 67 (FFbetw 1 2):=by
 intro args h res h' o he ho
 unfold FFbetw at he
 split at he
 ·rename_i n
  simp only[Option.some.injEq,Prod.mk.injEq]at he
  obtain⟨rfl,rfl,rfl⟩:=he
  have e:evalF tt (ctOf T2) [] 100 Tryz.f67 [.c (.int .i64 n)] [] []=some ⟨.c (.bool (bet n 1 2)),[],true,[]⟩:=by kernel_rfl
  exact meets_of t2 (by kernel_rfl) (by kernel_rfl) e rfl (by simp) (fun c _=>LcOk.nil)
 ·cases he
theorem m79:ModelOk Tryz.prog 48 (FFbetw 0 7):=by
 intro args h res h' o he ho
 unfold FFbetw at he
 split at he
 ·rename_i n
  simp only[Option.some.injEq,Prod.mk.injEq]at he
  obtain⟨rfl,rfl,rfl⟩:=he
  have e:evalF tt (ctOf T2) [] 100 Tryz.f48 [.c (.int .i64 n)] [] []=some ⟨.c (.bool (bet n 0 7)),[],true,[]⟩:=by kernel_rfl
  exact meets_of t2 (by kernel_rfl) (by kernel_rfl) e rfl (by simp) (fun c _=>LcOk.nil)
 ·cases he
theorem m69:ModelOk Tryz.prog 75 (FFbetw 1 99):=by
 intro args h res h' o he ho
 unfold FFbetw at he
 split at he
 ·rename_i n
  simp only[Option.some.injEq,Prod.mk.injEq]at he
  obtain⟨rfl,rfl,rfl⟩:=he
  have e:evalF tt (ctOf T2) [] 100 Tryz.f75 [.c (.int .i64 n)] [] []=some ⟨.c (.bool (bet n 1 99)),[],true,[]⟩:=by kernel_rfl
  exact meets_of t2 (by kernel_rfl) (by kernel_rfl) e rfl (by simp) (fun c _=>LcOk.nil)
 ·cases he
theorem m54:ModelOk Tryz.prog 56 (FFbetw 1 2):=by
 intro args h res h' o he ho
 unfold FFbetw at he
 split at he
 ·rename_i n
  simp only[Option.some.injEq,Prod.mk.injEq]at he
  obtain⟨rfl,rfl,rfl⟩:=he
  have e:evalF tt (ctOf T2) [] 100 Tryz.f56 [.c (.int .i64 n)] [] []=some ⟨.c (.bool (bet n 1 2)),[],true,[]⟩:=by kernel_rfl
  exact meets_of t2 (by kernel_rfl) (by kernel_rfl) e rfl (by simp) (fun c _=>LcOk.nil)
 ·cases he
theorem m150:ModelOk Tryz.prog 166 FFplus:=by
 intro args h res h' o he ho
 unfold FFplus at he
 split at he
 ·rename_i n m
  simp only[Option.some.injEq,Prod.mk.injEq]at he
  obtain⟨rfl,rfl,rfl⟩:=he
  have e:evalF tt (ctOf T2) [] 100 Tryz.f166 [.c (.int .i64 n),.c (.int .i64 m)] [] []=some ⟨.c (.int .i64 ((IntKind.i64.wrap (n+m))%31)),[],true,[]⟩:=by kernel_rfl
  rw[wrap_add (ho (fok n) (by simp)) (ho (fok m) (by simp))]at e
  exact meets_of t2 (by kernel_rfl) (by kernel_rfl) e rfl (by simp) (fun c _=>LcOk.nil)
 ·cases he
theorem m151:ModelOk Tryz.prog 167 FFtimes:=by
 intro args h res h' o he ho
 unfold FFtimes at he
 split at he
 ·rename_i n m
  simp only[Option.some.injEq,Prod.mk.injEq]at he
  obtain⟨rfl,rfl,rfl⟩:=he
  have e:evalF tt (ctOf T2) [] 100 Tryz.f167 [.c (.int .i64 n),.c (.int .i64 m)] [] []=some ⟨.c (.int .i64 ((IntKind.i64.wrap (n*m))%31)),[],true,[]⟩:=by kernel_rfl
  rw[wrap_mul (ho (fok n) (by simp)) (ho (fok m) (by simp))]at e
  exact meets_of t2 (by kernel_rfl) (by kernel_rfl) e rfl (by simp) (fun c _=>LcOk.nil)
 ·cases he
theorem m165:ModelOk Tryz.prog 188 FFminus:=by
 intro args h res h' o he ho
 unfold FFminus at he
 split at he
 ·rename_i n m
  simp only[Option.some.injEq,Prod.mk.injEq]at he
  obtain⟨rfl,rfl,rfl⟩:=he
  have e:evalF tt (ctOf T2) [] 100 Tryz.f188 [.c (.int .i64 n),.c (.int .i64 m)] [] []=some ⟨.c (.int .i64 ((IntKind.i64.wrap (n-m))%31)),[],true,[]⟩:=by kernel_rfl
  rw[wrap_sub (ho (fok n) (by simp)) (ho (fok m) (by simp))]at e
  exact meets_of t2 (by kernel_rfl) (by kernel_rfl) e rfl (by simp) (fun c _=>LcOk.nil)
 ·cases he
def T3:List Entry:=[⟨132,[],FFfok⟩,⟨117,[],FFfok⟩,⟨67,[],FFbetw 1 2⟩,⟨48,[],FFbetw 0 7⟩,⟨75,[],FFbetw 1 99⟩,⟨56,[],FFbetw 1 2⟩,⟨166,[],FFplus⟩,⟨167,[],FFtimes⟩,⟨188,[],FFminus⟩]++T2
theorem e3:EntriesOk Tryz.prog T3:=by
 refine EntriesOk.append ?_ e2
 intro e he
 simp only[List.mem_cons,List.not_mem_nil,or_false]at he
 rcases he with rfl|rfl|rfl|rfl|rfl|rfl|rfl|rfl|rfl
 ·exact m118
 ·exact m102
 ·exact m68
 ·exact m79
 ·exact m69
 ·exact m54
 ·exact m150
 ·exact m151
 ·exact m165
theorem t3:CtOk Tryz.prog (ctOf T3):=ctOf_ok e3
end Go.Proofs.YthapjdpkelihiaaGreat.Am
end
section
namespace Go.Proofs.YthapjdpkelihiaaGreat.Am
def FFvplus:Model:=fun args h=>
 match args,h with
 |[.agg [.int .i64 a,.int .i64 b,.int .i64 c,.int .i64 d],.agg [.int .i64 x,.int .i64 y,.int .i64 z,.int .i64 t]],[]=>
  some (.agg [.int .i64 ((a+x)%31),.int .i64 ((b+y)%31),.int .i64 ((c+z)%31),.int .i64 ((d+t)%31)],[],[fok a,fok x,fok b,fok y,fok c,fok z,fok d,fok t])
 |_,_=>none
def FFvtimes:Model:=fun args h=>
 match args,h with
 |[.agg [.int .i64 a,.int .i64 b,.int .i64 c,.int .i64 d],.c (.int .i64 x)],[]=>
  some (.agg [.int .i64 ((a*x)%31),.int .i64 ((b*x)%31),.int .i64 ((c*x)%31),.int .i64 ((d*x)%31)],[],[fok a,fok x,fok b,fok x,fok c,fok x,fok d,fok x])
 |_,_=>none
def dot4 (a b c d x y z t:Int):Int:=((((0+(a*x)%31)%31+(b*y)%31)%31+(c*z)%31)%31+(d*t)%31)%31
def FFvdot:Model:=fun args h=>
 match args,h with
 |[.agg [.int .i64 a,.int .i64 b,.int .i64 c,.int .i64 d],.agg [.int .i64 x,.int .i64 y,.int .i64 z,.int .i64 t]],[]=>
  some (.c (.int .i64 (dot4 a b c d x y z t)),[],[fok a,fok x,fok b,fok y,fok c,fok z,fok d,fok t])
 |_,_=>none
def FFvlist:Model:=fun args h=>
 match args,h with
 |[.agg [.int .i64 a,.int .i64 b,.int .i64 c,.int .i64 d]],[]=>some (.c (.sl 0 0 4 1 none),[.live (.ints .i64 [a,b,c,d])],[])
 |_,_=>none
theorem fok_mod (n:Int):fok (n%31)=true:=fok_iff.2 ⟨by omega,by omega⟩
theorem m149:ModelOk Tryz.prog 171 FFvplus:=by
 intro args h res h' o he ho
 unfold FFvplus at he
 split at he
 ·rename_i a b c d x y z t
  simp only[Option.some.injEq,Prod.mk.injEq]at he
  obtain⟨rfl,rfl,rfl⟩:=he
  have e:evalF tt (ctOf T3) [] 100 Tryz.f171 [.agg [.int .i64 a,.int .i64 b,.int .i64 c,.int .i64 d],.agg [.int .i64 x,.int .i64 y,.int .i64 z,.int .i64 t]] [] []=some ⟨.agg [.int .i64 ((a+x)%31),.int .i64 ((b+y)%31),.int .i64 ((c+z)%31),.int .i64 ((d+t)%31)],[],(fok a&&(fok x&&(fok b&&(fok y&&(fok c&&(fok z&&(fok d&&(fok t&&true)))))))),[]⟩:=by kernel_rfl
  simp only[List.mem_cons,List.not_mem_nil,or_false,forall_eq_or_imp,forall_eq]at ho
  exact meets_of t3 (by kernel_rfl) (by kernel_rfl) e (by simp[ho]) (by simp) (fun c _=>LcOk.nil)
 ·cases he
theorem m164:ModelOk Tryz.prog 187 FFvtimes:=by
 intro args h res h' o he ho
 unfold FFvtimes at he
 split at he
 ·rename_i a b c d x
  simp only[Option.some.injEq,Prod.mk.injEq]at he
  obtain⟨rfl,rfl,rfl⟩:=he
  have e:evalF tt (ctOf T3) [] 100 Tryz.f187 [.agg [.int .i64 a,.int .i64 b,.int .i64 c,.int .i64 d],.c (.int .i64 x)] [] []=some ⟨.agg [.int .i64 ((a*x)%31),.int .i64 ((b*x)%31),.int .i64 ((c*x)%31),.int .i64 ((d*x)%31)],[],(fok a&&(fok x&&(fok b&&(fok x&&(fok c&&(fok x&&(fok d&&(fok x&&true)))))))),[]⟩:=by kernel_rfl
  simp only[List.mem_cons,List.not_mem_nil,or_false,forall_eq_or_imp,forall_eq]at ho
  exact meets_of t3 (by kernel_rfl) (by kernel_rfl) e (by simp[ho]) (by simp) (fun c _=>LcOk.nil)
 ·cases he
theorem m123:ModelOk Tryz.prog 126 FFvdot:=by
 intro args h res h' o he ho
 unfold FFvdot at he
 split at he
 ·rename_i a b c d x y z t
  simp only[Option.some.injEq,Prod.mk.injEq]at he
  obtain⟨rfl,rfl,rfl⟩:=he
  have e:evalF tt (ctOf T3) [] 100 Tryz.f126 [.agg [.int .i64 a,.int .i64 b,.int .i64 c,.int .i64 d],.agg [.int .i64 x,.int .i64 y,.int .i64 z,.int .i64 t]] [] []=some ⟨.c (.int .i64 (dot4 a b c d x y z t)),[],(fok a&&(fok x&&(fok ((a*x)%31)&&(fok b&&(fok y&&(fok ((0+(a*x)%31)%31)&&(fok ((b*y)%31)&&(fok c&&(fok z&&(fok (((0+(a*x)%31)%31+(b*y)%31)%31)&&(fok ((c*z)%31)&&(fok d&&(fok t&&(fok ((((0+(a*x)%31)%31+(b*y)%31)%31+(c*z)%31)%31)&&(fok ((d*t)%31)&&true))))))))))))))),[]⟩:=by kernel_rfl
  simp only[List.mem_cons,List.not_mem_nil,or_false,forall_eq_or_imp,forall_eq]at ho
  exact meets_of t3 (by kernel_rfl) (by kernel_rfl) e (by simp[ho,fok_mod]) (by simp) (fun c _=>LcOk.nil)
 ·cases he
theorem m140:ModelOk Tryz.prog 153 FFvlist:=by
 intro args h res h' o he ho
 unfold FFvlist at he
 split at he
 ·rename_i a b c d
  simp only[Option.some.injEq,Prod.mk.injEq]at he
  obtain⟨rfl,rfl,rfl⟩:=he
  have e:evalF tt (ctOf T3) [] 100 Tryz.f153 [.agg [.int .i64 a,.int .i64 b,.int .i64 c,.int .i64 d]] [] []=some ⟨.c (.sl 0 0 4 1 none),[.live (.ints .i64 [a,b,c,d])],true,[]⟩:=by kernel_rfl
  exact meets_of t3 (by kernel_rfl) (by kernel_rfl) e rfl (by simp) (fun c _=>LcOk.nil)
 ·cases he
end Go.Proofs.YthapjdpkelihiaaGreat.Am
end
section
namespace Go.Proofs.YthapjdpkelihiaaGreat.Am
def eqC:Cell→Cell→Bool
 |.int k n,.int k' n'=>decide (k=k')&&decide (n=n')
 |.bool b,.bool b'=>b==b'
 |.sl id o len es none,.sl id' o' len' es' none=>id==id'&&o==o'&&len==len'&&es==es'
 |_,_=>false
theorem eqC_spec {x y:Cell} (h:eqC x y=true):x=y:=by
 unfold eqC at h
 split at h
 ·simp at h;obtain⟨rfl,rfl⟩:=h;rfl
 ·simp at h;subst h;rfl
 ·simp at h;obtain⟨⟨⟨rfl,rfl⟩,rfl⟩,rfl⟩:=h;rfl
 ·cases h
def eqL {α:Type} (f:α→α→Bool):List α→List α→Bool
 |[],[]=>true
 |x::r,y::s=>f x y&&eqL f r s
 |_,_=>false
theorem eqL_spec {α:Type} {f:α→α→Bool} (hf: ∀x y,f x y=true→x=y): ∀ {l r:List α},eqL f l r=true→l=r
 |[],[],_=>rfl
 |x::l,y::r,h=>by
  simp only[eqL,Bool.and_eq_true]at h
  rw[hf _ _ h.1,eqL_spec hf h.2]
 |[],_::_,h=>by simp[eqL]at h
 |_::_,[],h=>by simp[eqL]at h
def eqA:AV→AV→Bool
 |.c x,.c y=>eqC x y
 |.agg l,.agg r=>eqL eqC l r
 |_,_=>false
theorem eqA_spec {x y:AV} (h:eqA x y=true):x=y:=by
 unfold eqA at h
 split at h
 ·rw[eqC_spec h]
 ·rw[eqL_spec (fun _ _=>eqC_spec) h]
 ·cases h
def eqS:Slot→Slot→Bool
 |.live (.ints k xs),.live (.ints k' ys)=>decide (k=k')&&eqL (fun a b=>decide (a=b)) xs ys
 |.live (.bools xs),.live (.bools ys)=>eqL (fun a b=>a==b) xs ys
 |_,_=>false
theorem eqS_spec {x y:Slot} (h:eqS x y=true):x=y:=by
 unfold eqS at h
 split at h
 ·simp only[Bool.and_eq_true,decide_eq_true_eq]at h
  obtain⟨rfl,h⟩:=h
  rw[eqL_spec (fun a b h=>by simpa using h) h]
 ·rw[eqL_spec (fun a b h=>by simpa using h) h]
 ·cases h
def gives (r:Option FOut) (res:AV) (heap:List Slot):Bool:=
 match r with
 |some ⟨a,h,true,[]⟩=>eqA a res&&eqL eqS h heap
 |_=>false
theorem gives_spec {r:Option FOut} {res:AV} {heap:List Slot} (h:gives r res heap=true):r=some ⟨res,heap,true,[]⟩:=by
 unfold gives at h
 split at h
 ·simp only[Bool.and_eq_true]at h
  rw[eqA_spec h.1,eqL_spec (fun _ _=>eqS_spec) h.2]
 ·cases h
def unitC (n:Int):List Cell:=[.int .i64 (if n=0 then 1 else 0),.int .i64 (if n=1 then 1 else 0),.int .i64 (if n=2 then 1 else 0),.int .i64 (if n=3 then 1 else 0)]
def FFunit:Model:=fun args h=>
 match args,h with
 |[.c (.int .i64 n)],[]=>some (.agg (unitC n),[],[bet n 0 3])
 |_,_=>none
def powC (x:Int):List Cell:=[.int .i64 1,.int .i64 (1*x%31),.int .i64 (1*x%31*x%31),.int .i64 (1*x%31*x%31*x%31)]
def FFpow:Model:=fun args h=>
 match args,h with
 |[.c (.int .i64 x)],[]=>some (.agg (powC x),[],[fok x])
 |_,_=>none
theorem m148:ModelOk Tryz.prog 170 FFunit:=by
 intro args h res h' o he ho
 unfold FFunit at he
 split at he
 ·rename_i n
  simp only[Option.some.injEq,Prod.mk.injEq]at he
  obtain⟨rfl,rfl,rfl⟩:=he
  have hb:=ho (bet n 0 3) (List.mem_singleton.2 rfl)
  simp only[bet,Bool.and_eq_true,decide_eq_true_eq]at hb
  have all:allK (fun k=>gives (evalF tt (ctOf T3) [] 1000 Tryz.f170 [.c (.int .i64 (k:Nat))] [] []) (.agg (unitC (k:Nat))) []) 4=true:=by kernel_rfl
  have e:=gives_spec (allK_spec all n.toNat (by omega))
  rw[show((n.toNat:Nat):Int)=n from by omega]at e
  exact meets_of t3 (by kernel_rfl) (by kernel_rfl) e rfl (by simp) (fun c _=>LcOk.nil)
 ·cases he
theorem m147:ModelOk Tryz.prog 169 FFpow:=by
 intro args h res h' o he ho
 unfold FFpow at he
 split at he
 ·rename_i n
  simp only[Option.some.injEq,Prod.mk.injEq]at he
  obtain⟨rfl,rfl,rfl⟩:=he
  refine of31 (q:=fun n=>Meets Tryz.prog _ [.c (.int .i64 n)] [] (.agg (powC n)) []) (fun k hk=> ?_) (ho _ (List.mem_singleton.2 rfl))
  have all:allK (fun k=>gives (evalF tt (ctOf T3) [] 1000 Tryz.f169 [.c (.int .i64 k)] [] []) (.agg (powC k)) []) 31=true:=by kernel_rfl
  exact meets_of t3 (by kernel_rfl) (by kernel_rfl) (gives_spec (allK_spec all k hk)) rfl (by simp) (fun c _=>LcOk.nil)
 ·cases he
def T5a:List Entry:=[⟨170,[],FFunit⟩,⟨169,[],FFpow⟩,⟨171,[],FFvplus⟩]++T3
theorem e5a:EntriesOk Tryz.prog T5a:=by
 refine EntriesOk.append ?_ e3
 intro e he
 simp only[List.mem_cons,List.not_mem_nil,or_false]at he
 rcases he with rfl|rfl|rfl
 ·exact m148
 ·exact m147
 ·exact m149
theorem t5a:CtOk Tryz.prog (ctOf T5a):=ctOf_ok e5a
def givesV (r:Option FOut) (xs:List Int) (len:Nat):Bool:=
 match r with
 |some ⟨.c (.view none (.ints .i64 ys) l 1 none),[],true,[]⟩=>eqL (fun a b=>decide (a=b)) ys xs&&l==len
 |_=>false
theorem givesV_spec {r:Option FOut} {xs:List Int} {len:Nat} (h:givesV r xs len=true):r=some ⟨.c (.view none (.ints .i64 xs) len 1 none),[],true,[]⟩:=by
 unfold givesV at h
 split at h
 ·simp only[Bool.and_eq_true,beq_iff_eq]at h
  rw[eqL_spec (fun a b h=>by simpa using h) h.1,h.2]
 ·cases h
def rowL (kind at_:Int):List Int:=
 if kind=1 then [[1,0,0,0],[0,1,0,0],[0,0,1,0],[0,0,0,1],[1,1,0,0],[0,0,1,1],[1,2,4,8],[1,3,9,27]].getD at_.toNat []
 else [1,(at_+1)%31,(at_+1)*(at_+1)%31,(at_+1)*(at_+1)*(at_+1)%31]
def rowC (kind at_:Int):List Cell:=[.int .i64 ((rowL kind at_).getD 0 0),.int .i64 ((rowL kind at_).getD 1 0),.int .i64 ((rowL kind at_).getD 2 0),.int .i64 ((rowL kind at_).getD 3 0)]
def FFrow:Model:=fun args h=>
 match args,h with
 |[.c (.int .i64 k),.c (.int .i64 a)],[]=>some (.agg (rowC k a),[],[bet k 1 2,bet a 0 7])
 |_,_=>none
def FFl4row:Model:=fun args h=>
 match args,h with
 |[.c (.int .i64 k),.c (.int .i64 a)],[]=>some (.c (.view none (.ints .i64 (rowL k a)) 4 1 none),[],[bet k 1 2,bet a 0 7])
 |_,_=>none
theorem of16 {q:Int→Int→Prop} (h: ∀k:Nat,k<16→q ((k/8:Nat)+1:Int) (k%8:Nat)) {k a:Int} (hk:bet k 1 2=true) (ha:bet a 0 7=true):q k a:=by
 simp only[bet,Bool.and_eq_true,decide_eq_true_eq]at hk ha
 have:=h ((k.toNat-1)*8+a.toNat) (by omega)
 have e1:(((((k.toNat-1)*8+a.toNat)/8:Nat):Int)+1)=k:=by omega
 have e2:((((k.toNat-1)*8+a.toNat)%8:Nat):Int)=a:=by omega
 rwa[e1,e2]at this
theorem m122:ModelOk Tryz.prog 125 FFrow:=by
 intro args h res h' o he ho
 unfold FFrow at he
 split at he
 ·rename_i k a
  simp only[Option.some.injEq,Prod.mk.injEq]at he
  obtain⟨rfl,rfl,rfl⟩:=he
  refine of16 (q:=fun k a=>Meets Tryz.prog _ [.c (.int .i64 k),.c (.int .i64 a)] [] (.agg (rowC k a)) []) (fun i hi=> ?_) (ho _ (by simp)) (ho _ (by simp))
  have all:allK (fun k=>gives (evalF tt (ctOf T5a) [] 1000 Tryz.f125 [.c (.int .i64 ((k/8:Nat)+1:Int)),.c (.int .i64 (k%8:Nat))] [] []) (.agg (rowC ((k/8:Nat)+1:Int) (k%8:Nat))) []) 16=true:=by kernel_rfl
  exact meets_of t5a (by kernel_rfl) (by kernel_rfl) (gives_spec (allK_spec all i hi)) rfl (by simp) (fun c _=>LcOk.nil)
 ·cases he
theorem m109:ModelOk Tryz.prog 120 FFl4row:=by
 intro args h res h' o he ho
 unfold FFl4row at he
 split at he
 ·rename_i k a
  simp only[Option.some.injEq,Prod.mk.injEq]at he
  obtain⟨rfl,rfl,rfl⟩:=he
  refine of16 (q:=fun k a=>Meets Tryz.prog _ [.c (.int .i64 k),.c (.int .i64 a)] [] (.c (.view none (.ints .i64 (rowL k a)) 4 1 none)) []) (fun i hi=> ?_) (ho _ (by simp)) (ho _ (by simp))
  by_cases h8:i<8
  ·have all:allK (fun k=>givesV (evalF tt (ctOf T3) [] 1000 Tryz.f120 [.c (.int .i64 ((k/8:Nat)+1:Int)),.c (.int .i64 (k%8:Nat))] [] []) (rowL ((k/8:Nat)+1:Int) (k%8:Nat)) 4) 8=true:=by kernel_rfl
   exact meets_of t3 (by kernel_rfl) (by kernel_rfl) (givesV_spec (allK_spec all i h8)) rfl (by simp) (fun c _=>LcOk.nil)
  ·have all:allK (fun k=>gives (evalF tt (ctOf T3) [] 1000 Tryz.f120 [.c (.int .i64 (((k+8)/8:Nat)+1:Int)),.c (.int .i64 ((k+8)%8:Nat))] [] []) (.c (.sl 0 0 4 1 none)) [.live (.ints .i64 (rowL (((k+8)/8:Nat)+1:Int) ((k+8)%8:Nat)))]) 8=true:=by kernel_rfl
   have e:=gives_spec (allK_spec all (i-8) (by omega))
   rw[show i-8+8=i from by omega]at e
   refine Meets.view (meets_of t3 (by kernel_rfl) (by kernel_rfl) e rfl (by simp) (fun c _=>LcOk.nil)) rfl ?_
   have:(((i/8:Nat)+1:Int))=2:=by omega
   rw[this];rfl
 ·cases he
def T5:List Entry:=[⟨125,[],FFrow⟩,⟨120,[],FFl4row⟩,⟨187,[],FFvtimes⟩,⟨126,[],FFvdot⟩,⟨153,[],FFvlist⟩]++T5a
theorem e5:EntriesOk Tryz.prog T5:=by
 refine EntriesOk.append ?_ e5a
 intro e he
 simp only[List.mem_cons,List.not_mem_nil,or_false]at he
 rcases he with rfl|rfl|rfl|rfl|rfl
 ·exact m122
 ·exact m109
 ·exact m164
 ·exact m123
 ·exact m140
theorem t5:CtOk Tryz.prog (ctOf T5):=ctOf_ok e5
end Go.Proofs.YthapjdpkelihiaaGreat.Am
end
section
namespace Go.Proofs.YthapjdpkelihiaaGreat.Am
def allFok (v:List Int):Bool:=v.all fok
theorem allFok_get {v:List Int} (h:allFok v=true) (i:Nat):fok (v.getD i 0)=true:=by
 rcases Nat.lt_or_ge i v.length with hi|hi
 ·rw[List.getD_eq_getElem?_getD,List.getElem?_eq_getElem hi]
  exact List.all_eq_true.1 h _ (List.getElem_mem hi)
 ·rw[List.getD_eq_getElem?_getD,List.getElem?_eq_none hi];rfl
theorem mod_pos {n:Int} (h:0≤n):n.tmod 31=n%31:=Int.tmod_eq_emod_of_nonneg h
def dotAt (v w:List Int):Nat→Nat→Int→Int
 |0,_,n=>n
 |k+1,i,n=>dotAt v w k (i+1) ((n+v.getD i 0*w.getD i 0)%31)
def dotL (v w:List Int):Int:=dotAt v w v.length 0 0
noncomputable abbrev f108:=Tryz.f119
def I108 (nl nl2:Option Bool) (cap cap2:Option Nat) (v w:List Int) (i n:Int):St:=
 stOf 26 [(0,.c (.view nl (.ints .i64 v) v.length 1 cap)),(1,.c (.view nl2 (.ints .i64 w) w.length 1 cap2)),(5,.c (.int .i64 n)),(6,.c (.int .i64 i))] []
def X108 (n:Int):St:=stOf 26 [(5,.c (.int .i64 n))] []
section
variable (ct : CT) (nl nl2 : Option Bool) (cap cap2 : Option Nat) (v w : List Int) (i n : Int)
theorem r108_1:roundR 0 (liveH f108 0) (liveB' f108 0) (evalC tt ct [] 0 100 (bodyAt 0 (codeOf f108)) (I108 nl nl2 cap cap2 v w i n) [(0,true)])=
  some (.normal,(decide (i<v.length)&&(decide (0≤i)&&(decide (i<v.length)&&(decide (i.toNat<v.length)&&(decide (0≤i)&&(decide (i<w.length)&&(decide (i.toNat<w.length)&&true))))))),[],
   I108 nl nl2 cap cap2 v w (IntKind.i64.wrap (i+1)) ((IntKind.i64.wrap (n+IntKind.i64.wrap (v.getD i.toNat 0*w.getD i.toNat 0))).tmod 31)):=by kernel_rfl
theorem r108_2:roundR 0 (liveH f108 0) (liveB' f108 0) (evalC tt ct [] 0 100 (bodyAt 0 (codeOf f108)) (I108 nl nl2 cap cap2 v w i n) [(0,false)])=
  some (.exit 0,(!decide (i<v.length)&&true),[],X108 n):=by kernel_rfl
end
theorem dot_step {n a b:Int} (hn:fok n=true) (ha:fok a=true) (hb:fok b=true):(IntKind.i64.wrap (n+IntKind.i64.wrap (a*b))).tmod 31=(n+a*b)%31:=by
 obtain⟨h1,h2⟩:=mul_bound ha hb
 obtain⟨h3,h4⟩:=fok_iff.1 hn
 rw[wrap_mul ha hb,wrap_mid (by omega) (by omega),mod_pos (by omega)]
theorem l108 {ct:CT} (hct:CtOk Tryz.prog ct) (nl nl2:Option Bool) (cap cap2:Option Nat) (v w:List Int) (hl:v.length≤274877906944) (hvw:v.length≤w.length) (hv:allFok v=true) (hw:allFok w=true):
  Good Tryz.prog 0 (.block 0 (.loop (bodyAt 0 (codeOf f108)))) (I108 nl nl2 cap cap2 v w 0 0) fun e t=>e=.normal∧t=X108 (dotL v w):=by
 refine Good.roundsN hT hct hmix (m:=0) (id:=0) (body:=bodyAt 0 (codeOf f108)) (α:=Nat×Int)
  (fun x=>x.1≤v.length∧fok x.2=true∧dotAt v w (v.length-x.1) x.1 x.2=dotL v w) (fun x=>I108 nl nl2 cap cap2 v w x.1 x.2) (fun x=>v.length-x.1) (liveH f108 0) (liveB' f108 0)
  (fun _=>X108 (dotL v w)) (fun _=>[]) (fun _ _=>LcOk.nil) (fun x hx=> ?_) (0,0) ⟨by simp,rfl,rfl⟩
 obtain⟨i,n⟩:=x
 obtain⟨h1,h2,h3⟩:=hx
 dsimp only at h1 h2 h3⊢
 by_cases hi:i<v.length
 ·have hk:v.length-i=(v.length-(i+1))+1:=by omega
  rw[hk]at h3
  simp only[dotAt]at h3
  refine⟨_,_,_,_,_,_,r108_1 ct nl nl2 cap cap2 v w i n, ?_,by simp,.inl ⟨rfl,(i+1,(n+v.getD i 0*w.getD i 0)%31),⟨by omega,fok_mod _,h3⟩,by dsimp only;omega, ?_,rfl⟩⟩
  ·simp;omega
  ·rw[wrap_small (by omega) (by omega),Int.toNat_natCast,dot_step h2 (allFok_get hv i) (allFok_get hw i)];simp
 ·have hz:v.length-i=0:=by omega
  rw[hz]at h3
  simp only[dotAt]at h3
  exact⟨_,_,_,_,_,_,r108_2 ct nl nl2 cap cap2 v w i n,by simp;omega,by simp,.inr ⟨rfl,by rw[h3]⟩⟩
def FFdot:Model:=fun args h=>
 match args,h with
 |[.c (.view nl (.ints .i64 v) len 1 cap),.c (.view nl2 (.ints .i64 w) len2 1 cap2)],[]=>
  some (.c (.int .i64 (dotL v w)),[],[decide (v.length≤274877906944),decide (v.length≤w.length),allFok v,allFok w])
 |_,_=>none
theorem m108 {ct:CT} (hct:CtOk Tryz.prog ct):ModelOk Tryz.prog 119 FFdot:=by
 intro args h res h' o he ho
 unfold FFdot at he
 split at he
 ·rename_i nl v len cap nl2 w len2 cap2
  simp only[Option.some.injEq,Prod.mk.injEq]at he
  obtain⟨rfl,rfl,rfl⟩:=he
  simp only[List.mem_cons,List.not_mem_nil,or_false,forall_eq_or_imp,forall_eq,decide_eq_true_eq]at ho
  obtain⟨o1,o2,o3,o4⟩:=ho
  refine Meets.len ⟨f108,by kernel_rfl,by kernel_rfl,by kernel_rfl⟩ fun hlen=> ?_
  simp only[List.mem_cons,List.not_mem_nil,or_false,forall_eq_or_imp,forall_eq,AV.lenOk,Cell.lenOk,Con.size,Nat.mul_one]at hlen
  obtain⟨rfl,rfl⟩:=hlen
  exact meets_of hct (fn:=f108) (lc:=[(0,⟨liveH f108 0,I108 nl nl2 cap cap2 v w 0 0,.normal,X108 (dotL v w)⟩)]) (fuel:=100) (p:=[]) (o:=⟨_,_,true,[I108 nl nl2 cap cap2 v w 0 0=I108 nl nl2 cap cap2 v w 0 0]⟩)
   (by kernel_rfl) (by kernel_rfl) (by kernel_rfl) rfl (by simp) (fun c hc=>LcOk.cons (c:=c) (by cases hc;kernel_rfl) (by cases hc;exact l108 hct nl nl2 cap cap2 v w o1 o2 o3 o4) LcOk.nil)
 ·cases he
end Go.Proofs.YthapjdpkelihiaaGreat.Am
end
section
namespace Go.Proofs.YthapjdpkelihiaaGreat.Am
def mapAt (f:Nat→Int):Nat→Nat→List Int
 |0,_=>[]
 |k+1,i=>f i::mapAt f k (i+1)
theorem mapAt_len (f:Nat→Int): ∀k i,(mapAt f k i).length=k
 |0,_=>rfl
 |k+1,i=>by simp[mapAt,mapAt_len f k (i+1)]
def sumF (v w:List Int) (i:Nat):Int:=(v.getD i 0+w.getD i 0)%31
def sumL (v w:List Int):List Int:=mapAt (sumF v w) v.length 0
noncomputable abbrev f180:=Tryz.f218
noncomputable def I180 (nl nl2:Option Bool) (cap cap2:Option Nat) (v w:List Int) (i:Int) (n:Nat) (out:List Int):St:=
 stOf f180.ntmps [(0,.c (.view nl (.ints .i64 v) v.length 1 cap)),(1,.c (.view nl2 (.ints .i64 w) w.length 1 cap2)),(5,.c (.sl 0 0 n 1 none)),(6,.c (.int .i64 i))] [.live (.ints .i64 out)]
noncomputable def X180 (n:Nat) (out:List Int):St:=stOf f180.ntmps [(5,.c (.sl 0 0 n 1 none))] [.live (.ints .i64 out)]
section
variable (ct : CT) (nl nl2 : Option Bool) (cap cap2 : Option Nat) (v w : List Int) (i : Int) (n : Nat) (out : List Int)
theorem r180_1:roundR 0 (liveH f180 0) (liveB' f180 0) (evalC tt ct [] 0 100 (bodyAt 0 (codeOf f180)) (I180 nl nl2 cap cap2 v w i n out) [(0,true)])=
  some (.normal,(decide (i<v.length)&&(decide (0≤i)&&(decide (i<v.length)&&(decide (i.toNat<v.length)&&(decide (0≤i)&&(decide (i<w.length)&&(decide (i.toNat<w.length)&&
   (decide (1=[(IntKind.i64.wrap (v.getD i.toNat 0+w.getD i.toNat 0)).tmod 31].length)&&(decide (n=out.length)&&(decide (n+1≤274877906944)&&true)))))))))),[],
   I180 nl nl2 cap cap2 v w (IntKind.i64.wrap (i+1)) (n+1) (out++[(IntKind.i64.wrap (v.getD i.toNat 0+w.getD i.toNat 0)).tmod 31])):=by kernel_rfl
theorem r180_2:roundR 0 (liveH f180 0) (liveB' f180 0) (evalC tt ct [] 0 100 (bodyAt 0 (codeOf f180)) (I180 nl nl2 cap cap2 v w i n out) [(0,false)])=
  some (.exit 0,(!decide (i<v.length)&&true),[],X180 n out):=by kernel_rfl
end
theorem sum_step {a b:Int} (ha:fok a=true) (hb:fok b=true):(IntKind.i64.wrap (a+b)).tmod 31=(a+b)%31:=by
 obtain⟨h3,h4⟩:=fok_iff.1 ha;obtain⟨h1,h2⟩:=fok_iff.1 hb
 rw[wrap_add ha hb,mod_pos (by omega)]
theorem l180 {ct:CT} (hct:CtOk Tryz.prog ct) (nl nl2:Option Bool) (cap cap2:Option Nat) (v w:List Int) (hl:v.length≤274877906944) (hvw:v.length≤w.length) (hv:allFok v=true) (hw:allFok w=true):
  Good Tryz.prog 0 (.block 0 (.loop (bodyAt 0 (codeOf f180)))) (I180 nl nl2 cap cap2 v w 0 0 []) fun e t=>e=.normal∧t=X180 v.length (sumL v w):=by
 refine Good.roundsN hT hct hmix (m:=0) (id:=0) (body:=bodyAt 0 (codeOf f180)) (α:=Nat×List Int)
  (fun x=>x.1≤v.length∧x.2.length=x.1∧x.2++mapAt (sumF v w) (v.length-x.1) x.1=sumL v w) (fun x=>I180 nl nl2 cap cap2 v w x.1 x.2.length x.2) (fun x=>v.length-x.1) (liveH f180 0) (liveB' f180 0)
  (fun _=>X180 v.length (sumL v w)) (fun _=>[]) (fun _ _=>LcOk.nil) (fun x hx=> ?_) (0,[]) ⟨by simp,rfl,rfl⟩
 obtain⟨i,out⟩:=x
 obtain⟨h1,h2,h3⟩:=hx
 dsimp only at h1 h2 h3⊢
 by_cases hi:i<v.length
 ·have hk:v.length-i=(v.length-(i+1))+1:=by omega
  rw[hk]at h3
  simp only[mapAt]at h3
  refine⟨_,_,_,_,_,_,r180_1 ct nl nl2 cap cap2 v w i out.length out, ?_,by simp,.inl ⟨rfl,(i+1,out++[sumF v w i]),⟨by omega,by simp[h2],by simpa using h3⟩,by dsimp only;omega, ?_,rfl⟩⟩
  ·simp;omega
  ·rw[wrap_small (by omega) (by omega),Int.toNat_natCast,sum_step (allFok_get hv i) (allFok_get hw i)];simp[sumF]
 ·have hz:v.length-i=0:=by omega
  rw[hz]at h3
  simp only[mapAt,List.append_nil]at h3
  have e:out.length=v.length:=by omega
  exact⟨_,_,_,_,_,_,r180_2 ct nl nl2 cap cap2 v w i out.length out,by simp;omega,by simp,.inr ⟨rfl,by rw[←h3,e]⟩⟩
def FFsum:Model:=fun args h=>
 match args,h with
 |[.c (.view nl (.ints .i64 v) len 1 cap),.c (.view nl2 (.ints .i64 w) len2 1 cap2)],[]=>
  some (.c (.sl 0 0 v.length 1 none),[.live (.ints .i64 (sumL v w))],[decide (v.length≤274877906944),decide (v.length≤w.length),allFok v,allFok w])
 |_,_=>none
theorem m180 {ct:CT} (hct:CtOk Tryz.prog ct):ModelOk Tryz.prog 218 FFsum:=by
 intro args h res h' o he ho
 unfold FFsum at he
 split at he
 ·rename_i nl v len cap nl2 w len2 cap2
  simp only[Option.some.injEq,Prod.mk.injEq]at he
  obtain⟨rfl,rfl,rfl⟩:=he
  simp only[List.mem_cons,List.not_mem_nil,or_false,forall_eq_or_imp,forall_eq,decide_eq_true_eq]at ho
  obtain⟨o1,o2,o3,o4⟩:=ho
  refine Meets.len ⟨f180,by kernel_rfl,by kernel_rfl,by kernel_rfl⟩ fun hlen=> ?_
  simp only[List.mem_cons,List.not_mem_nil,or_false,forall_eq_or_imp,forall_eq,AV.lenOk,Cell.lenOk,Con.size,Nat.mul_one]at hlen
  obtain⟨rfl,rfl⟩:=hlen
  exact meets_of hct (fn:=f180) (lc:=[(0,⟨liveH f180 0,I180 nl nl2 cap cap2 v w 0 0 [],.normal,X180 v.length (sumL v w)⟩)]) (fuel:=100) (p:=[]) (o:=⟨_,_,true,[I180 nl nl2 cap cap2 v w 0 0 []=I180 nl nl2 cap cap2 v w 0 0 []]⟩)
   (by kernel_rfl) (by kernel_rfl) (by kernel_rfl) rfl (by simp) (fun c hc=>LcOk.cons (c:=c) (by cases hc;kernel_rfl) (by cases hc;exact l180 hct nl nl2 cap cap2 v w o1 o2 o3 o4) LcOk.nil)
 ·cases he
end Go.Proofs.YthapjdpkelihiaaGreat.Am
end
section
namespace Go.Proofs.YthapjdpkelihiaaGreat.Am
def scaleF (v:List Int) (c:Int) (i:Nat):Int:=(v.getD i 0*c)%31
def scaleL (v:List Int) (c:Int):List Int:=mapAt (scaleF v c) v.length 0
noncomputable abbrev f156:=Tryz.f194
noncomputable def I156 (nl:Option Bool) (cap:Option Nat) (v:List Int) (c i:Int) (n:Nat) (out:List Int):St:=
 stOf f156.ntmps [(0,.c (.view nl (.ints .i64 v) v.length 1 cap)),(1,.c (.int .i64 c)),(5,.c (.sl 0 0 n 1 none)),(6,.c (.int .i64 i))] [.live (.ints .i64 out)]
noncomputable def X156 (n:Nat) (out:List Int):St:=stOf f156.ntmps [(5,.c (.sl 0 0 n 1 none))] [.live (.ints .i64 out)]
section
variable (ct : CT) (nl : Option Bool) (cap : Option Nat) (v : List Int) (c i : Int) (n : Nat) (out : List Int)
theorem r156_1:roundR 0 (liveH f156 0) (liveB' f156 0) (evalC tt ct [] 0 100 (bodyAt 0 (codeOf f156)) (I156 nl cap v c i n out) [(0,true)])=
  some (.normal,(decide (i<v.length)&&(decide (0≤i)&&(decide (i<v.length)&&(decide (i.toNat<v.length)&&((decide (1=[(IntKind.i64.wrap (v.getD i.toNat 0*c)).tmod 31].length)&&(decide (n=out.length)&&(decide (n+1≤274877906944)&&true)))))))),[],
   I156 nl cap v c (IntKind.i64.wrap (i+1)) (n+1) (out++[(IntKind.i64.wrap (v.getD i.toNat 0*c)).tmod 31])):=by kernel_rfl
theorem r156_2:roundR 0 (liveH f156 0) (liveB' f156 0) (evalC tt ct [] 0 100 (bodyAt 0 (codeOf f156)) (I156 nl cap v c i n out) [(0,false)])=
  some (.exit 0,(!decide (i<v.length)&&true),[],X156 n out):=by kernel_rfl
end
theorem scale_step {a b:Int} (ha:fok a=true) (hb:fok b=true):(IntKind.i64.wrap (a*b)).tmod 31=(a*b)%31:=by
 obtain⟨h1,h2⟩:=mul_bound ha hb
 rw[wrap_mul ha hb,mod_pos (by omega)]
theorem l156 {ct:CT} (hct:CtOk Tryz.prog ct) (nl:Option Bool) (cap:Option Nat) (v:List Int) (c:Int) (hl:v.length≤274877906944) (hv:allFok v=true) (hc:fok c=true):
  Good Tryz.prog 0 (.block 0 (.loop (bodyAt 0 (codeOf f156)))) (I156 nl cap v c 0 0 []) fun e t=>e=.normal∧t=X156 v.length (scaleL v c):=by
 refine Good.roundsN hT hct hmix (m:=0) (id:=0) (body:=bodyAt 0 (codeOf f156)) (α:=Nat×List Int)
  (fun x=>x.1≤v.length∧x.2.length=x.1∧x.2++mapAt (scaleF v c) (v.length-x.1) x.1=scaleL v c) (fun x=>I156 nl cap v c x.1 x.2.length x.2) (fun x=>v.length-x.1) (liveH f156 0) (liveB' f156 0)
  (fun _=>X156 v.length (scaleL v c)) (fun _=>[]) (fun _ _=>LcOk.nil) (fun x hx=> ?_) (0,[]) ⟨by simp,rfl,rfl⟩
 obtain⟨i,out⟩:=x
 obtain⟨h1,h2,h3⟩:=hx
 dsimp only at h1 h2 h3⊢
 by_cases hi:i<v.length
 ·have hk:v.length-i=(v.length-(i+1))+1:=by omega
  rw[hk]at h3
  simp only[mapAt]at h3
  refine⟨_,_,_,_,_,_,r156_1 ct nl cap v c i out.length out, ?_,by simp,.inl ⟨rfl,(i+1,out++[scaleF v c i]),⟨by omega,by simp[h2],by simpa using h3⟩,by dsimp only;omega, ?_,rfl⟩⟩
  ·simp;omega
  ·rw[wrap_small (by omega) (by omega),Int.toNat_natCast,scale_step (allFok_get hv i) hc];simp[scaleF]
 ·have hz:v.length-i=0:=by omega
  rw[hz]at h3
  simp only[mapAt,List.append_nil]at h3
  have e:out.length=v.length:=by omega
  exact⟨_,_,_,_,_,_,r156_2 ct nl cap v c i out.length out,by simp;omega,by simp,.inr ⟨rfl,by rw[←h3,e]⟩⟩
def FFscale:Model:=fun args h=>
 match args,h with
 |[.c (.view nl (.ints .i64 v) len 1 cap),.c (.int .i64 c)],[]=>
  some (.c (.sl 0 0 v.length 1 none),[.live (.ints .i64 (scaleL v c))],[decide (v.length≤274877906944),allFok v,fok c])
 |_,_=>none
theorem m156 {ct:CT} (hct:CtOk Tryz.prog ct):ModelOk Tryz.prog 194 FFscale:=by
 intro args h res h' o he ho
 unfold FFscale at he
 split at he
 ·rename_i nl v len cap c
  simp only[Option.some.injEq,Prod.mk.injEq]at he
  obtain⟨rfl,rfl,rfl⟩:=he
  simp only[List.mem_cons,List.not_mem_nil,or_false,forall_eq_or_imp,forall_eq,decide_eq_true_eq]at ho
  obtain⟨o1,o2,o3⟩:=ho
  refine Meets.len ⟨f156,by kernel_rfl,by kernel_rfl,by kernel_rfl⟩ fun hlen=> ?_
  simp only[List.mem_cons,List.not_mem_nil,or_false,forall_eq_or_imp,forall_eq,AV.lenOk,Cell.lenOk,Con.size,Nat.mul_one]at hlen
  obtain⟨rfl,-⟩:=hlen
  exact meets_of hct (fn:=f156) (lc:=[(0,⟨liveH f156 0,I156 nl cap v c 0 0 [],.normal,X156 v.length (scaleL v c)⟩)]) (fuel:=100) (p:=[]) (o:=⟨_,_,true,[I156 nl cap v c 0 0 []=I156 nl cap v c 0 0 []]⟩)
   (by kernel_rfl) (by kernel_rfl) (by kernel_rfl) rfl (by simp) (fun cc hc=>LcOk.cons (c:=cc) (by cases hc;kernel_rfl) (by cases hc;exact l156 hct nl cap v c o1 o2 o3) LcOk.nil)
 ·cases he
end Go.Proofs.YthapjdpkelihiaaGreat.Am
end
section
namespace Go.Proofs.YthapjdpkelihiaaGreat.Am
def leadAt (v:List Int):Nat→Nat→Option Nat
 |0,_=>none
 |k+1,i=>if v.getD i 0=0 then leadAt v k (i+1)else some i
def leadO (v:List Int):Option Nat:=leadAt v v.length 0
def leadL (v:List Int):Int:=match leadO v with|some j=>(j:Int)|none=> -1
noncomputable abbrev f154:=Tryz.f192
noncomputable def I154 (nl:Option Bool) (cap:Option Nat) (v:List Int) (i:Int):St:=
 stOf f154.ntmps [(0,.c (.view nl (.ints .i64 v) v.length 1 cap)),(3,.c (.int .i64 i))] []
noncomputable def X154:St:=stOf f154.ntmps [] []
noncomputable def Y154 (i:Int):St:=stOf f154.ntmps [(2,.c (.int .i64 i))] []
section
variable (ct : CT) (nl : Option Bool) (cap : Option Nat) (v : List Int) (i : Int)
theorem r154_1:roundR 0 (liveH f154 0) (liveB' f154 0) (evalC tt ct [] 0 100 (bodyAt 0 (codeOf f154)) (I154 nl cap v i) [(0,true),(0,true)])=
  some (.ret,(decide (i<v.length)&&(decide (0≤i)&&(decide (i<v.length)&&(decide (i.toNat<v.length)&&(v.getD i.toNat 0 !=0&&true))))),[],Y154 i):=by kernel_rfl
theorem r154_2:roundR 0 (liveH f154 0) (liveB' f154 0) (evalC tt ct [] 0 100 (bodyAt 0 (codeOf f154)) (I154 nl cap v i) [(0,true),(0,false)])=
  some (.normal,(decide (i<v.length)&&(decide (0≤i)&&(decide (i<v.length)&&(decide (i.toNat<v.length)&&(!(v.getD i.toNat 0 !=0)&&true))))),[],I154 nl cap v (IntKind.i64.wrap (i+1))):=by kernel_rfl
theorem r154_3:roundR 0 (liveH f154 0) (liveB' f154 0) (evalC tt ct [] 0 100 (bodyAt 0 (codeOf f154)) (I154 nl cap v i) [(0,false)])=
  some (.exit 0,(!decide (i<v.length)&&true),[],X154):=by kernel_rfl
end
def e154:Option Nat→Ex
 |some _=> .ret
 |none=> .normal
noncomputable def p154:Option Nat→St
 |some j=>Y154 j
 |none=>X154
theorem l154 {ct:CT} (hct:CtOk Tryz.prog ct) (nl:Option Bool) (cap:Option Nat) (v:List Int) (hl:v.length≤274877906944):
  Good Tryz.prog 0 (.block 0 (.loop (bodyAt 0 (codeOf f154)))) (I154 nl cap v 0) fun e t=>e=e154 (leadO v)∧t=p154 (leadO v):=by
 refine Good.roundsR hT hct hmix (m:=0) (id:=0) (body:=bodyAt 0 (codeOf f154)) (α:=Nat)
  (fun i=>i≤v.length∧leadAt v (v.length-i) i=leadO v) (fun i=>I154 nl cap v i) (fun i=>v.length-i) (liveH f154 0) (liveB' f154 0)
  (fun _=>e154 (leadO v)) (fun _=>p154 (leadO v)) (fun _=>[]) (fun _ _=>LcOk.nil) (fun i hx=> ?_) 0 ⟨by simp,rfl⟩
 obtain⟨h1,h3⟩:=hx
 by_cases hi:i<v.length
 ·have hk:v.length-i=(v.length-(i+1))+1:=by omega
  rw[hk]at h3
  simp only[leadAt]at h3
  by_cases hz:v.getD i 0=0
  ·rw[if_pos hz]at h3
   refine⟨_,_,_,_,_,_,r154_2 ct nl cap v i, ?_,by simp,.inl ⟨rfl,i+1,⟨by omega,h3⟩,by omega, ?_,rfl,rfl⟩⟩
   ·simp[-List.getD_eq_getElem?_getD,hi,hz]
   ·rw[wrap_small (by omega) (by omega)];simp
  ·rw[if_neg hz]at h3
   refine⟨_,_,_,_,_,_,r154_1 ct nl cap v i, ?_,by simp,.inr (.inr ⟨by simp,by simp, ?_, ?_⟩)⟩
   ·simp[-List.getD_eq_getElem?_getD,hi,hz]
   ·rw[←h3];rfl
   ·rw[←h3];rfl
 ·have hz:v.length-i=0:=by omega
  rw[hz]at h3
  simp only[leadAt]at h3
  exact⟨_,_,_,_,_,_,r154_3 ct nl cap v i,by simp;omega,by simp,.inr (.inl ⟨rfl,by rw[←h3];rfl,by rw[←h3];rfl⟩)⟩
def FFlead:Model:=fun args h=>
 match args,h with
 |[.c (.view nl (.ints .i64 v) len 1 cap)],[]=>some (.c (.int .i64 (leadL v)),[],[decide (v.length≤274877906944)])
 |_,_=>none
theorem m154 {ct:CT} (hct:CtOk Tryz.prog ct):ModelOk Tryz.prog 192 FFlead:=by
 intro args h res h' o he ho
 unfold FFlead at he
 split at he
 ·rename_i nl v len cap
  simp only[Option.some.injEq,Prod.mk.injEq]at he
  obtain⟨rfl,rfl,rfl⟩:=he
  have o1:v.length≤274877906944:=by simpa using ho
  refine Meets.len ⟨f154,by kernel_rfl,by kernel_rfl,by kernel_rfl⟩ fun hlen=> ?_
  simp only[List.mem_cons,List.not_mem_nil,or_false,forall_eq,AV.lenOk,Cell.lenOk,Con.size,Nat.mul_one]at hlen
  subst hlen
  have g:=l154 hct nl cap v o1
  unfold leadL
  cases hx:leadO v with
  |none=>
   rw[hx]at g
   exact meets_of hct (fn:=f154) (lc:=[(0,⟨liveH f154 0,I154 nl cap v 0,.normal,X154⟩)]) (fuel:=100) (p:=[]) (o:=⟨_,_,true,[I154 nl cap v 0=I154 nl cap v 0]⟩)
    (by kernel_rfl) (by kernel_rfl) (by kernel_rfl) rfl (by simp) (fun cc hc=>LcOk.cons (c:=cc) (by cases hc;kernel_rfl) (by cases hc;exact g) LcOk.nil)
  |some j=>
   rw[hx]at g
   exact meets_of hct (fn:=f154) (lc:=[(0,⟨liveH f154 0,I154 nl cap v 0,.ret,Y154 j⟩)]) (fuel:=100) (p:=[]) (o:=⟨_,_,true,[I154 nl cap v 0=I154 nl cap v 0]⟩)
    (by kernel_rfl) (by kernel_rfl) (by kernel_rfl) rfl (by simp) (fun cc hc=>LcOk.cons (c:=cc) (by cases hc;kernel_rfl) (by cases hc;exact g) LcOk.nil)
 ·cases he
end Go.Proofs.YthapjdpkelihiaaGreat.Am
end
section
namespace Go.Proofs.YthapjdpkelihiaaGreat.Am
def T6:List Entry:=[⟨119,[],FFdot⟩,⟨218,[],FFsum⟩,⟨194,[],FFscale⟩,⟨192,[],FFlead⟩]++T5
theorem e6:EntriesOk Tryz.prog T6:=by
 refine EntriesOk.append ?_ e5
 intro e he
 simp only[List.mem_cons,List.not_mem_nil,or_false]at he
 rcases he with rfl|rfl|rfl|rfl
 ·exact m108 t5
 ·exact m180 t5
 ·exact m156 t5
 ·exact m154 t5
theorem t6:CtOk Tryz.prog (ctOf T6):=ctOf_ok e6
def okAt (v:List Int):Nat→Nat→Bool
 |0,_=>true
 |k+1,i=>fok (v.getD i 0)&&okAt v k (i+1)
theorem okAt_eq (v:List Int): ∀k i,k=v.length-i→okAt v k i=(v.drop i).all fok
 |0,i,h=>by
  rw[List.drop_eq_nil_of_le (by omega)];rfl
 |k+1,i,h=>by
  have hi:i<v.length:=by omega
  rw[List.drop_eq_getElem_cons hi]
  simp only[okAt,List.all_cons]
  rw[okAt_eq v k (i+1) (by omega),List.getD_eq_getElem?_getD,List.getElem?_eq_getElem hi];rfl
noncomputable abbrev f60:=Tryz.f61
noncomputable def I60 (nl:Option Bool) (cap:Option Nat) (v:List Int) (i:Int):St:=
 stOf f60.ntmps [(0,.c (.view nl (.ints .i64 v) v.length 1 cap)),(3,.c (.int .i64 i))] []
noncomputable def X60 (nl:Option Bool) (cap:Option Nat) (v:List Int):St:=stOf f60.ntmps [(0,.c (.view nl (.ints .i64 v) v.length 1 cap))] []
noncomputable def Y60 (nl:Option Bool) (cap:Option Nat) (v:List Int):St:=stOf f60.ntmps [(0,.c (.view nl (.ints .i64 v) v.length 1 cap)),(2,.c (.bool false))] []
section
variable (nl : Option Bool) (cap : Option Nat) (v : List Int) (i : Int)
theorem r60_1:roundR 0 (liveH f60 0) (liveB' f60 0) (evalC tt (ctOf T6) [] 0 100 (bodyAt 0 (codeOf f60)) (I60 nl cap v i) [(0,true),(0,true)])=
  some (.ret,(decide (i<v.length)&&(decide (0≤i)&&(decide (i<v.length)&&(decide (i.toNat<v.length)&&(!fok (v.getD i.toNat 0)&&true))))),[],Y60 nl cap v):=by kernel_rfl
theorem r60_2:roundR 0 (liveH f60 0) (liveB' f60 0) (evalC tt (ctOf T6) [] 0 100 (bodyAt 0 (codeOf f60)) (I60 nl cap v i) [(0,true),(0,false)])=
  some (.normal,(decide (i<v.length)&&(decide (0≤i)&&(decide (i<v.length)&&(decide (i.toNat<v.length)&&(!!fok (v.getD i.toNat 0)&&true))))),[],I60 nl cap v (IntKind.i64.wrap (i+1))):=by kernel_rfl
theorem r60_3:roundR 0 (liveH f60 0) (liveB' f60 0) (evalC tt (ctOf T6) [] 0 100 (bodyAt 0 (codeOf f60)) (I60 nl cap v i) [(0,false)])=
  some (.exit 0,(!decide (i<v.length)&&true),[],X60 nl cap v):=by kernel_rfl
end
def e60:Bool→Ex
 |true=> .normal
 |false=> .ret
noncomputable def p60 (nl:Option Bool) (cap:Option Nat) (v:List Int):Bool→St
 |true=>X60 nl cap v
 |false=>Y60 nl cap v
theorem l60 (nl:Option Bool) (cap:Option Nat) (v:List Int) (hl:v.length≤274877906944):
  Good Tryz.prog 0 (.block 0 (.loop (bodyAt 0 (codeOf f60)))) (I60 nl cap v 0) fun e t=>e=e60 (allFok v)∧t=p60 nl cap v (allFok v):=by
 refine Good.roundsR hT t6 hmix (m:=0) (id:=0) (body:=bodyAt 0 (codeOf f60)) (α:=Nat)
  (fun i=>i≤v.length∧okAt v (v.length-i) i=allFok v) (fun i=>I60 nl cap v i) (fun i=>v.length-i) (liveH f60 0) (liveB' f60 0)
  (fun _=>e60 (allFok v)) (fun _=>p60 nl cap v (allFok v)) (fun _=>[]) (fun _ _=>LcOk.nil) (fun i hx=> ?_) 0 ⟨by simp,by rw[okAt_eq v _ _ (by simp)];rfl⟩
 obtain⟨h1,h3⟩:=hx
 by_cases hi:i<v.length
 ·have hk:v.length-i=(v.length-(i+1))+1:=by omega
  rw[hk]at h3
  simp only[okAt]at h3
  cases hz:fok (v.getD i 0)with
  |true=>
   rw[hz,Bool.true_and]at h3
   refine⟨_,_,_,_,_,_,r60_2 nl cap v i, ?_,by simp,.inl ⟨rfl,i+1,⟨by omega,h3⟩,by omega, ?_,rfl,rfl⟩⟩
   ·simp[-List.getD_eq_getElem?_getD,hi,hz]
   ·rw[wrap_small (by omega) (by omega)];simp
  |false=>
   rw[hz,Bool.false_and]at h3
   refine⟨_,_,_,_,_,_,r60_1 nl cap v i, ?_,by simp,.inr (.inr ⟨by simp,by simp, ?_, ?_⟩)⟩
   ·simp[-List.getD_eq_getElem?_getD,hi,hz]
   ·rw[←h3];rfl
   ·rw[←h3];rfl
 ·have hz:v.length-i=0:=by omega
  rw[hz]at h3
  simp only[okAt]at h3
  exact⟨_,_,_,_,_,_,r60_3 nl cap v i,by simp;omega,by simp,.inr (.inl ⟨rfl,by rw[←h3];rfl,by rw[←h3];rfl⟩)⟩
def vok (v:List Int):Bool:=allFok v&&decide ((v.length:Int)=4)
def FFvok:Model:=fun args h=>
 match args,h with
 |[.c (.view nl (.ints .i64 v) len 1 cap)],[]=>some (.c (.bool (vok v)),[],[decide (v.length≤274877906944)])
 |_,_=>none
theorem m60:ModelOk Tryz.prog 61 FFvok:=by
 intro args h res h' o he ho
 unfold FFvok at he
 split at he
 ·rename_i nl v len cap
  simp only[Option.some.injEq,Prod.mk.injEq]at he
  obtain⟨rfl,rfl,rfl⟩:=he
  have o1:v.length≤274877906944:=by simpa using ho
  refine Meets.len ⟨f60,by kernel_rfl,by kernel_rfl,by kernel_rfl⟩ fun hlen=> ?_
  simp only[List.mem_cons,List.not_mem_nil,or_false,forall_eq,AV.lenOk,Cell.lenOk,Con.size,Nat.mul_one]at hlen
  subst hlen
  have g:=l60 nl cap v o1
  unfold vok
  cases hx:allFok v with
  |true=>
   rw[hx]at g
   have hb:(true&&decide ((v.length:Int)=4))=((v.length:Int)==4):=by
    rw[Bool.true_and];by_cases h:(v.length:Int)=4<;>simp[h]
   rw[hb]
   exact meets_of t6 (fn:=f60) (lc:=[(0,⟨liveH f60 0,I60 nl cap v 0,.normal,X60 nl cap v⟩)]) (fuel:=100) (p:=[]) (o:=⟨_,_,true,[I60 nl cap v 0=I60 nl cap v 0]⟩)
    (by kernel_rfl) (by kernel_rfl) (by kernel_rfl) rfl (by simp) (fun cc hc=>LcOk.cons (c:=cc) (by cases hc;kernel_rfl) (by cases hc;exact g) LcOk.nil)
  |false=>
   rw[hx]at g
   exact meets_of t6 (fn:=f60) (lc:=[(0,⟨liveH f60 0,I60 nl cap v 0,.ret,Y60 nl cap v⟩)]) (fuel:=100) (p:=[]) (o:=⟨_,_,true,[I60 nl cap v 0=I60 nl cap v 0]⟩)
    (by kernel_rfl) (by kernel_rfl) (by kernel_rfl) rfl (by simp) (fun cc hc=>LcOk.cons (c:=cc) (by cases hc;kernel_rfl) (by cases hc;exact g) LcOk.nil)
 ·cases he
end Go.Proofs.YthapjdpkelihiaaGreat.Am
end
section
namespace Go.Proofs.YthapjdpkelihiaaGreat.Am
def FFnfok:Model:=fun args h=>
 match args,h with
 |[.c (.int .i64 n)],[]=>some (.c (.bool (!fok n)),[],[])
 |_,_=>none
theorem m145:ModelOk Tryz.prog 168 FFnfok:=by
 intro args h res h' o he ho
 unfold FFnfok at he
 split at he
 ·rename_i n
  simp only[Option.some.injEq,Prod.mk.injEq]at he
  obtain⟨rfl,rfl,rfl⟩:=he
  have e:evalF tt (ctOf T6) [] 100 Tryz.f168 [.c (.int .i64 n)] [] []=some ⟨.c (.bool (!fok n)),[],true,[]⟩:=by kernel_rfl
  exact meets_of t6 (by kernel_rfl) (by kernel_rfl) e rfl (by simp) (fun c _=>LcOk.nil)
 ·cases he
def T7:List Entry:=[⟨61,[],FFvok⟩,⟨168,[],FFnfok⟩]++T6
theorem e7:EntriesOk Tryz.prog T7:=by
 refine EntriesOk.append ?_ e6
 intro e he
 simp only[List.mem_cons,List.not_mem_nil,or_false]at he
 rcases he with rfl|rfl
 ·exact m60
 ·exact m145
theorem t7:CtOk Tryz.prog (ctOf T7):=ctOf_ok e7
def idxAt (q:Int→Bool) (v:List Int):Nat→Nat→Option Nat
 |0,_=>none
 |k+1,i=>bif q (v.getD i 0)then some i else idxAt q v k (i+1)
def idxO (q:Int→Bool) (v:List Int):Option Nat:=idxAt q v v.length 0
def idxL (q:Int→Bool) (v:List Int):Int:=match idxO q v with|some j=>(j:Int)|none=> -1
noncomputable abbrev f146:=Tryz.f176
noncomputable def I146 (nl:Option Bool) (cap:Option Nat) (v:List Int) (i:Int):St:=
 stOf f146.ntmps [(0,.c (.view nl (.ints .i64 v) v.length 1 cap)),(1,.c (.fn 168 [])),(7,.c (.int .i64 v.length)),(8,.c (.int .i64 i))] []
noncomputable def X146:St:=stOf f146.ntmps [] []
noncomputable def Y146 (i:Int):St:=stOf f146.ntmps [(4,.c (.int .i64 i))] []
section
variable (nl : Option Bool) (cap : Option Nat) (v : List Int) (i : Int)
theorem r146_1:roundR 0 (liveH f146 0) (liveB' f146 0) (evalC tt (ctOf T7) [] 0 100 (bodyAt 0 (codeOf f146)) (I146 nl cap v i) [(0,true),(0,true)])=
  some (.ret,(decide (i<v.length)&&(decide (0≤i)&&(decide (i<v.length)&&(decide (i.toNat<v.length)&&(!fok (v.getD i.toNat 0)&&true))))),[],Y146 i):=by kernel_rfl
theorem r146_2:roundR 0 (liveH f146 0) (liveB' f146 0) (evalC tt (ctOf T7) [] 0 100 (bodyAt 0 (codeOf f146)) (I146 nl cap v i) [(0,true),(0,false)])=
  some (.normal,(decide (i<v.length)&&(decide (0≤i)&&(decide (i<v.length)&&(decide (i.toNat<v.length)&&(!!fok (v.getD i.toNat 0)&&true))))),[],I146 nl cap v (IntKind.i64.wrap (i+1))):=by kernel_rfl
theorem r146_3:roundR 0 (liveH f146 0) (liveB' f146 0) (evalC tt (ctOf T7) [] 0 100 (bodyAt 0 (codeOf f146)) (I146 nl cap v i) [(0,false)])=
  some (.exit 0,(!decide (i<v.length)&&true),[],X146):=by kernel_rfl
end
noncomputable def p146:Option Nat→St
 |some j=>Y146 j
 |none=>X146
theorem l146 (nl:Option Bool) (cap:Option Nat) (v:List Int) (hl:v.length≤274877906944):
  Good Tryz.prog 0 (.block 0 (.loop (bodyAt 0 (codeOf f146)))) (I146 nl cap v 0) fun e t=>e=e154 (idxO (fun x=> !fok x) v)∧t=p146 (idxO (fun x=> !fok x) v):=by
 refine Good.roundsR hT t7 hmix (m:=0) (id:=0) (body:=bodyAt 0 (codeOf f146)) (α:=Nat)
  (fun i=>i≤v.length∧idxAt (fun x=> !fok x) v (v.length-i) i=idxO (fun x=> !fok x) v) (fun i=>I146 nl cap v i) (fun i=>v.length-i) (liveH f146 0) (liveB' f146 0)
  (fun _=>e154 (idxO (fun x=> !fok x) v)) (fun _=>p146 (idxO (fun x=> !fok x) v)) (fun _=>[]) (fun _ _=>LcOk.nil) (fun i hx=> ?_) 0 ⟨by simp,rfl⟩
 obtain⟨h1,h3⟩:=hx
 by_cases hi:i<v.length
 ·have hk:v.length-i=(v.length-(i+1))+1:=by omega
  rw[hk]at h3
  simp only[idxAt]at h3
  cases hz:fok (v.getD i 0)with
  |true=>
   rw[hz]at h3
   refine⟨_,_,_,_,_,_,r146_2 nl cap v i, ?_,by simp,.inl ⟨rfl,i+1,⟨by omega,by simpa using h3⟩,by omega, ?_,rfl,rfl⟩⟩
   ·simp[-List.getD_eq_getElem?_getD,hi,hz]
   ·rw[wrap_small (by omega) (by omega)];simp
  |false=>
   rw[hz]at h3
   simp only[Bool.not_false,cond_true]at h3
   refine⟨_,_,_,_,_,_,r146_1 nl cap v i, ?_,by simp,.inr (.inr ⟨by simp,by simp, ?_, ?_⟩)⟩
   ·simp[-List.getD_eq_getElem?_getD,hi,hz]
   ·rw[←h3];rfl
   ·rw[←h3];rfl
 ·have hz:v.length-i=0:=by omega
  rw[hz]at h3
  simp only[idxAt]at h3
  exact⟨_,_,_,_,_,_,r146_3 nl cap v i,by simp;omega,by simp,.inr (.inl ⟨rfl,by rw[←h3];rfl,by rw[←h3];rfl⟩)⟩
def FFidxOk:Model:=fun args h=>
 match args,h with
 |[.c (.view nl (.ints .i64 v) len 1 cap),.c (.fn 168 [])],[]=>some (.c (.int .i64 (idxL (fun x=> !fok x) v)),[],[decide (v.length≤274877906944)])
 |_,_=>none
theorem m146:ModelOk Tryz.prog 176 FFidxOk:=by
 intro args h res h' o he ho
 unfold FFidxOk at he
 split at he
 ·rename_i nl v len cap
  simp only[Option.some.injEq,Prod.mk.injEq]at he
  obtain⟨rfl,rfl,rfl⟩:=he
  have o1:v.length≤274877906944:=by simpa using ho
  refine Meets.len ⟨f146,by kernel_rfl,by kernel_rfl,by kernel_rfl⟩ fun hlen=> ?_
  simp only[List.mem_cons,List.not_mem_nil,or_false,forall_eq_or_imp,forall_eq,AV.lenOk,Cell.lenOk,Con.size,Nat.mul_one]at hlen
  obtain⟨rfl,-⟩:=hlen
  have g:=l146 nl cap v o1
  unfold idxL
  cases hx:idxO (fun x=> !fok x) v with
  |none=>
   rw[hx]at g
   exact meets_of t7 (fn:=f146) (lc:=[(0,⟨liveH f146 0,I146 nl cap v 0,.normal,X146⟩)]) (fuel:=100) (p:=[]) (o:=⟨_,_,true,[I146 nl cap v 0=I146 nl cap v 0]⟩)
    (by kernel_rfl) (by kernel_rfl) (by kernel_rfl) rfl (by simp) (fun cc hc=>LcOk.cons (c:=cc) (by cases hc;kernel_rfl) (by cases hc;exact g) LcOk.nil)
  |some j=>
   rw[hx]at g
   exact meets_of t7 (fn:=f146) (lc:=[(0,⟨liveH f146 0,I146 nl cap v 0,.ret,Y146 j⟩)]) (fuel:=100) (p:=[]) (o:=⟨_,_,true,[I146 nl cap v 0=I146 nl cap v 0]⟩)
    (by kernel_rfl) (by kernel_rfl) (by kernel_rfl) rfl (by simp) (fun cc hc=>LcOk.cons (c:=cc) (by cases hc;kernel_rfl) (by cases hc;exact g) LcOk.nil)
 ·cases he
end Go.Proofs.YthapjdpkelihiaaGreat.Am
end
section
namespace Go.Proofs.YthapjdpkelihiaaGreat.Am
def T8:List Entry:=[⟨176,[],FFidxOk⟩]++T7
theorem e8:EntriesOk Tryz.prog T8:=by
 refine EntriesOk.append ?_ e7
 intro e he
 simp only[List.mem_cons,List.not_mem_nil,or_false]at he
 subst he;exact m146
theorem t8:CtOk Tryz.prog (ctOf T8):=ctOf_ok e8
theorem idxAt_ge (q:Int→Bool) (v:List Int): ∀k i,k=v.length-i→(match idxAt q v k i with|some j=>true|none=>false)=(v.drop i).any q
 |0,i,h=>by rw[List.drop_eq_nil_of_le (by omega)];rfl
 |k+1,i,h=>by
  have hi:i<v.length:=by omega
  rw[List.drop_eq_getElem_cons hi]
  simp only[idxAt,List.any_cons]
  have e:v.getD i 0=v[i]:=by rw[List.getD_eq_getElem?_getD,List.getElem?_eq_getElem hi];rfl
  rw[e]
  cases q v[i]with
  |true=>rfl
  |false=>rw[cond_false,idxAt_ge q v k (i+1) (by omega),Bool.false_or]
theorem idxL_ge (v:List Int):decide (idxL (fun x=> !fok x) v≥0)= !allFok v:=by
 have h:=idxAt_ge (fun x=> !fok x) v v.length 0 (by simp)
 have e:(v.drop 0).any (fun x=> !fok x)= !allFok v:=by
  rw[List.drop_zero,allFok,List.any_eq_not_all_not];simp
 rw[e]at h
 rw[←h]
 unfold idxL idxO
 cases idxAt (fun x=> !fok x) v v.length 0<;>simp
def FFhasBad:Model:=fun args h=>
 match args,h with
 |[.c (.view nl (.ints .i64 v) len 1 cap),.c (.fn 168 [])],[]=>some (.c (.bool (!allFok v)),[],[decide (v.length≤274877906944)])
 |_,_=>none
theorem m119:ModelOk Tryz.prog 133 FFhasBad:=by
 intro args h res h' o he ho
 unfold FFhasBad at he
 split at he
 ·rename_i nl v len cap
  simp only[Option.some.injEq,Prod.mk.injEq]at he
  obtain⟨rfl,rfl,rfl⟩:=he
  have e:evalF tt (ctOf T8) [] 100 Tryz.f133 [.c (.view nl (.ints .i64 v) len 1 cap),.c (.fn 168 [])] [] []=
    some ⟨.c (.bool (decide (idxL (fun x=> !fok x) v≥0))),[],decide (v.length≤274877906944)&&true,[]⟩:=by kernel_rfl
  rw[idxL_ge]at e
  exact meets_of t8 (by kernel_rfl) (by kernel_rfl) e (by simpa using ho) (by simp) (fun c _=>LcOk.nil)
 ·cases he
def T9:List Entry:=[⟨133,[],FFhasBad⟩]++T8
theorem e9:EntriesOk Tryz.prog T9:=by
 refine EntriesOk.append ?_ e8
 intro e he
 simp only[List.mem_cons,List.not_mem_nil,or_false]at he
 subst he;exact m119
theorem t9:CtOk Tryz.prog (ctOf T9):=ctOf_ok e9
def elsOk (v:List Int) (n:Int):Bool:=allFok v&&((v.length:Int)==n)
def FFels:Model:=fun args h=>
 match args,h with
 |[.c (.view nl (.ints .i64 v) len 1 cap),.c (.int .i64 n)],[]=>some (.c (.bool (elsOk v n)),[],[decide (v.length≤274877906944)])
 |_,_=>none
theorem m116:ModelOk Tryz.prog 124 FFels:=by
 intro args h res h' o he ho
 unfold FFels at he
 split at he
 ·rename_i nl v len cap n
  simp only[Option.some.injEq,Prod.mk.injEq]at he
  obtain⟨rfl,rfl,rfl⟩:=he
  have o1:v.length≤274877906944:=by simpa using ho
  refine Meets.len ⟨Tryz.f124,by kernel_rfl,by kernel_rfl,by kernel_rfl⟩ fun hlen=> ?_
  simp only[List.mem_cons,List.not_mem_nil,or_false,forall_eq_or_imp,forall_eq,AV.lenOk,Cell.lenOk,Con.size,Nat.mul_one]at hlen
  obtain⟨rfl,-⟩:=hlen
  cases hc:((v.length:Int)==n)with
  |true=>
   have e:evalF tt (ctOf T9) [] 100 Tryz.f124 [.c (.view nl (.ints .i64 v) v.length 1 cap),.c (.int .i64 n)] [] [(0,true)]=
     some ⟨.c (.bool (bif (v.length:Int)==n then !!allFok v else false)),[],((v.length:Int)==n)&&(((v.length:Int)==n)&&(decide (v.length≤274877906944)&&(((v.length:Int)==n)&&true))),[]⟩:=by kernel_rfl
   have hr:(bif (v.length:Int)==n then !!allFok v else false)=elsOk v n:=by simp[elsOk,hc]
   rw[hr]at e
   exact meets_of t9 (by kernel_rfl) (by kernel_rfl) e (by simp[hc,o1]) (by simp) (fun c _=>LcOk.nil)
  |false=>
   have e:evalF tt (ctOf T9) [] 100 Tryz.f124 [.c (.view nl (.ints .i64 v) v.length 1 cap),.c (.int .i64 n)] [] [(0,false)]=
     some ⟨.c (.bool false),[], !((v.length:Int)==n)&&(!((v.length:Int)==n)&&(!((v.length:Int)==n)&&(!((v.length:Int)==n)&&true))),[]⟩:=by kernel_rfl
   have hr:false=elsOk v n:=by simp[elsOk,hc]
   rw[hr]at e
   exact meets_of t9 (by kernel_rfl) (by kernel_rfl) e (by simp[hc]) (by simp) (fun c _=>LcOk.nil)
 ·cases he
end Go.Proofs.YthapjdpkelihiaaGreat.Am
end
section
namespace Go.Proofs.YthapjdpkelihiaaGreat.Am
def T10:List Entry:=[⟨124,[],FFels⟩]++T9
theorem e10:EntriesOk Tryz.prog T10:=by
 refine EntriesOk.append ?_ e9
 intro e he
 simp only[List.mem_cons,List.not_mem_nil,or_false]at he
 subst he;exact m116
theorem t10:CtOk Tryz.prog (ctOf T10):=ctOf_ok e10
def ifI (b:Bool) (n:Int):Int:=bif b then n else 0
def vecR (v:List Int) (b:Bool):AV:=
 .tup [.agg [.int .i64 (ifI b (v.getD 0 0)),.int .i64 (ifI b (v.getD 1 0)),.int .i64 (ifI b (v.getD 2 0)),.int .i64 (ifI b (v.getD 3 0))],.c (.bool b)]
def FFvec:Model:=fun args h=>
 match args,h with
 |[.c (.view nl (.ints .i64 v) len 1 cap)],[]=>some (vecR v (elsOk v 4),[],[decide (v.length≤274877906944)])
 |_,_=>none
theorem four {v:List Int} (h:elsOk v 4=true): ∃a b c d,v=[a,b,c,d]:=by
 simp only[elsOk,Bool.and_eq_true,beq_iff_eq]at h
 have h4:v.length=4:=by omega
 match v,h4 with
 |[a,b,c,d],_=>exact⟨a,b,c,d,rfl⟩
theorem m67:ModelOk Tryz.prog 74 FFvec:=by
 intro args h res h' o he ho
 unfold FFvec at he
 split at he
 ·rename_i nl v len cap
  simp only[Option.some.injEq,Prod.mk.injEq]at he
  obtain⟨rfl,rfl,rfl⟩:=he
  have o1:v.length≤274877906944:=by simpa using ho
  refine Meets.len ⟨Tryz.f74,by kernel_rfl,by kernel_rfl,by kernel_rfl⟩ fun hlen=> ?_
  simp only[List.mem_cons,List.not_mem_nil,or_false,forall_eq,AV.lenOk,Cell.lenOk,Con.size,Nat.mul_one]at hlen
  subst hlen
  cases hc:elsOk v 4 with
  |true=>
   obtain⟨a,b,c,d,rfl⟩:=four hc
   have e:evalF tt (ctOf T10) [] 100 Tryz.f74 [.c (.view nl (.ints .i64 [a,b,c,d]) [a,b,c,d].length 1 cap)] [] [(0,false)]=
     some ⟨vecR [a,b,c,d] true,[], !!elsOk [a,b,c,d] 4&&true,[]⟩:=by kernel_rfl
   exact meets_of t10 (by kernel_rfl) (by kernel_rfl) e (by simp[hc]) (by simp) (fun c _=>LcOk.nil)
  |false=>
   have e:evalF tt (ctOf T10) [] 100 Tryz.f74 [.c (.view nl (.ints .i64 v) v.length 1 cap)] [] [(0,true)]=
     some ⟨vecR v false,[],decide (v.length≤274877906944)&&(!elsOk v 4&&true),[]⟩:=by kernel_rfl
   exact meets_of t10 (by kernel_rfl) (by kernel_rfl) e (by simp[hc,o1]) (by simp) (fun c _=>LcOk.nil)
 ·cases he
def FFvecOk:Model:=fun args h=>
 match args,h with
 |[.c (.view nl (.ints .i64 v) len 1 cap)],[]=>some (.c (.bool (elsOk v 4)),[],[decide (v.length≤274877906944)])
 |_,_=>none
theorem m91:ModelOk Tryz.prog 68 FFvecOk:=by
 intro args h res h' o he ho
 unfold FFvecOk at he
 split at he
 ·rename_i nl v len cap
  simp only[Option.some.injEq,Prod.mk.injEq]at he
  obtain⟨rfl,rfl,rfl⟩:=he
  have e:evalF tt (ctOf T10) [] 100 Tryz.f68 [.c (.view nl (.ints .i64 v) len 1 cap)] [] []=some ⟨.c (.bool (elsOk v 4)),[],decide (v.length≤274877906944)&&true,[]⟩:=by kernel_rfl
  exact meets_of t10 (by kernel_rfl) (by kernel_rfl) e (by simpa using ho) (by simp) (fun c _=>LcOk.nil)
 ·cases he
end Go.Proofs.YthapjdpkelihiaaGreat.Am
end
section
namespace Go.Proofs.YthapjdpkelihiaaGreat.Am
def T11:List Entry:=[⟨74,[],FFvec⟩,⟨68,[],FFvecOk⟩]++T10
theorem e11:EntriesOk Tryz.prog T11:=by
 refine EntriesOk.append ?_ e10
 intro e he
 simp only[List.mem_cons,List.not_mem_nil,or_false]at he
 rcases he with rfl|rfl
 ·exact m67
 ·exact m91
theorem t11:CtOk Tryz.prog (ctOf T11):=ctOf_ok e11
def encE (k:Int) (v:List Int) (j:Int):Int:=
 dot4 ((rowL k j).getD 0 0) ((rowL k j).getD 1 0) ((rowL k j).getD 2 0) ((rowL k j).getD 3 0) (v.getD 0 0) (v.getD 1 0) (v.getD 2 0) (v.getD 3 0)
def encL (k:Int) (v:List Int):List Int:=[encE k v 0,encE k v 1,encE k v 2,encE k v 3,encE k v 4,encE k v 5,encE k v 6,encE k v 7]
def FFenc:Model:=fun args h=>
 match args,h with
 |[.c (.int .i64 k),.agg [.int .i64 a,.int .i64 b,.int .i64 c,.int .i64 d]],[]=>some (.c (.sl 0 0 8 1 none),[.live (.ints .i64 (encL k [a,b,c,d]))],[bet k 1 2,fok a,fok b,fok c,fok d])
 |_,_=>none
theorem two {k:Int} (h:bet k 1 2=true):k=1∨k=2:=by
 simp only[bet,Bool.and_eq_true,decide_eq_true_eq]at h;omega
theorem m74:ModelOk Tryz.prog 76 FFenc:=by
 intro args h res h' o he ho
 unfold FFenc at he
 split at he
 ·rename_i k a b c d
  simp only[Option.some.injEq,Prod.mk.injEq]at he
  obtain⟨rfl,rfl,rfl⟩:=he
  simp only[List.mem_cons,List.not_mem_nil,or_false,forall_eq_or_imp,forall_eq]at ho
  rcases two ho.1 with rfl|rfl
  ·skip
   have e:evalF tt (ctOf T11) [] 1000 Tryz.f76 [.c (.int .i64 1),.agg [.int .i64 a,.int .i64 b,.int .i64 c,.int .i64 d]] [] []=
     some ⟨.c (.sl 0 0 8 1 none),[.live (.ints .i64 (encL 1 [a,b,c,d]))],(fok a&&(fok b&&(fok c&&(fok d&&(fok a&&(fok b&&(fok c&&(fok d&&(fok a&&(fok b&&(fok c&&(fok d&&(fok a&&(fok b&&(fok c&&(fok d&&(fok a&&(fok b&&(fok c&&(fok d&&(fok a&&(fok b&&(fok c&&(fok d&&(fok a&&(fok b&&(fok c&&(fok d&&(fok a&&(fok b&&(fok c&&(fok d&&true)))))))))))))))))))))))))))))))),[]⟩:=by kernel_rfl
   exact meets_of t11 (by kernel_rfl) (by kernel_rfl) e (by simp[ho]) (by simp) (fun c _=>LcOk.nil)
  ·skip
   have e:evalF tt (ctOf T11) [] 1000 Tryz.f76 [.c (.int .i64 2),.agg [.int .i64 a,.int .i64 b,.int .i64 c,.int .i64 d]] [] []=
     some ⟨.c (.sl 0 0 8 1 none),[.live (.ints .i64 (encL 2 [a,b,c,d]))],(fok a&&(fok b&&(fok c&&(fok d&&(fok a&&(fok b&&(fok c&&(fok d&&(fok a&&(fok b&&(fok c&&(fok d&&(fok a&&(fok b&&(fok c&&(fok d&&(fok a&&(fok b&&(fok c&&(fok d&&(fok a&&(fok b&&(fok c&&(fok d&&(fok a&&(fok b&&(fok c&&(fok d&&(fok a&&(fok b&&(fok c&&(fok d&&true)))))))))))))))))))))))))))))))),[]⟩:=by kernel_rfl
   exact meets_of t11 (by kernel_rfl) (by kernel_rfl) e (by simp[ho]) (by simp) (fun c _=>LcOk.nil)
 ·cases he
end Go.Proofs.YthapjdpkelihiaaGreat.Am
end
section
namespace Go.Proofs.YthapjdpkelihiaaGreat.Am
def FFnz:Model:=fun args h=>
 match args,h with
 |[.c (.int .i64 n)],[]=>some (.c (.bool (n !=0)),[],[])
 |_,_=>none
theorem m184:ModelOk Tryz.prog 216 FFnz:=by
 intro args h res h' o he ho
 unfold FFnz at he
 split at he
 ·rename_i n
  simp only[Option.some.injEq,Prod.mk.injEq]at he
  obtain⟨rfl,rfl,rfl⟩:=he
  have e:evalF tt (ctOf T11) [] 100 Tryz.f216 [.c (.int .i64 n)] [] []=some ⟨.c (.bool (n !=0)),[],true,[]⟩:=by kernel_rfl
  exact meets_of t11 (by kernel_rfl) (by kernel_rfl) e rfl (by simp) (fun c _=>LcOk.nil)
 ·cases he
def FFvminus:Model:=fun args h=>
 match args,h with
 |[.agg [.int .i64 a,.int .i64 b,.int .i64 c,.int .i64 d],.agg [.int .i64 x,.int .i64 y,.int .i64 z,.int .i64 t]],[]=>
  some (.agg [.int .i64 ((a+x*30%31)%31),.int .i64 ((b+y*30%31)%31),.int .i64 ((c+z*30%31)%31),.int .i64 ((d+t*30%31)%31)],[],[fok a,fok x,fok b,fok y,fok c,fok z,fok d,fok t])
 |_,_=>none
def T12:List Entry:=[⟨76,[],FFenc⟩,⟨216,[],FFnz⟩]++T11
theorem e12:EntriesOk Tryz.prog T12:=by
 refine EntriesOk.append ?_ e11
 intro e he
 simp only[List.mem_cons,List.not_mem_nil,or_false]at he
 rcases he with rfl|rfl
 ·exact m74
 ·exact m184
theorem t12:CtOk Tryz.prog (ctOf T12):=ctOf_ok e12
theorem m163:ModelOk Tryz.prog 186 FFvminus:=by
 intro args h res h' o he ho
 unfold FFvminus at he
 split at he
 ·rename_i a b c d x y z t
  simp only[Option.some.injEq,Prod.mk.injEq]at he
  obtain⟨rfl,rfl,rfl⟩:=he
  have e:evalF tt (ctOf T12) [] 100 Tryz.f186 [.agg [.int .i64 a,.int .i64 b,.int .i64 c,.int .i64 d],.agg [.int .i64 x,.int .i64 y,.int .i64 z,.int .i64 t]] [] []=
   some ⟨.agg [.int .i64 ((a+x*30%31)%31),.int .i64 ((b+y*30%31)%31),.int .i64 ((c+z*30%31)%31),.int .i64 ((d+t*30%31)%31)],[],
    (fok x&&(fok y&&(fok z&&(fok t&&(fok a&&(fok (x*30%31)&&(fok b&&(fok (y*30%31)&&(fok c&&(fok (z*30%31)&&(fok d&&(fok (t*30%31)&&true)))))))))))),[]⟩:=by kernel_rfl
  simp only[List.mem_cons,List.not_mem_nil,or_false,forall_eq_or_imp,forall_eq]at ho
  exact meets_of t12 (by kernel_rfl) (by kernel_rfl) e (by simp[ho,fok_mod]) (by simp) (fun c _=>LcOk.nil)
 ·cases he
end Go.Proofs.YthapjdpkelihiaaGreat.Am
end
