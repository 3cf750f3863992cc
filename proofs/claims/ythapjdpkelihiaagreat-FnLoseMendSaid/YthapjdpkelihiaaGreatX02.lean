/- DERIVED. Part 2 of the proof: Am19, Am20, Am21, Am22, Am23, Am24, Am25, Am26, Tab, B0, C1, C2, C3, C4, C5, C6, C7, C8, C9, C10, C11, C12, C13, C14. No statement of the program is proved here. -/
import Derived.Test.YthapjdpkelihiaaGreatX01
import Derived.Test.YthapjdpkelihiaaGreatProg
set_option linter.unusedSimpArgs false
set_option linter.unusedVariables false
set_option linter.unusedSectionVars false
namespace Go.Proofs.YthapjdpkelihiaaGreat.Am
section
variable {X : Nat → Prop}
def jD:Code→List (Nat×Code)
 |.block id c=>(id,c)::jD c
 |.seq a b=>jD a++jD b
 |.cond _ a b=>jD a++jD b
 |.loop c=>jD c
 |_=>[]
def aF (P:Program) (m:Nat) (lc:List (Nat×LC)) (c:Code):Prop:=
 ∀q∈jD c,∀x,xU lc q.1=some x→aW P m (.block q.1 q.2) x.pre fun e s=>e=x.ex∧s=x.post
section
variable {P : Program} {tt : Tab} (hT : jA P tt) {ct : CT} (hct : bN P ct) (bM : P.follows .mixedOrders = true)
theorem qS {c:Code} {Q Q':Exit→Act→World→Prop} (h: ∀e a w,Q e a w→Q' e a w): ∀ {n:Nat} {a:Act} {w:World},Code.rounds P c Q n a w→Code.rounds P c Q' n a w
 |0,_,_,hr=>hr
 |n+1,a,w,hr=>by
  rw[rounds_succ]at hr⊢
  refine wp_mono hr fun e a w he=> ?_
  cases e with
  |normal=>exact qS h he
  |exit id=>exact h _ _ _ he
  |goto l=>exact h _ _ _ he
  |ret=>exact h _ _ _ he
  |panic c=>exact h _ _ _ he
  |outgrown=>exact h _ _ _ he
theorem hO {w0:World} {ρ0:Rho} {Q:Ex→St→Prop} {K:Act→World→Prop} {Q':Exit→Act→World→Prop} (hn: ∀s ρ a w,Q .normal s→Rel X w0 ρ0 s ρ a w→K a w)
  (he: ∀x s ρ a w,x≠ .normal→Q x s→Rel X w0 ρ0 s ρ a w→Q' (uC x) a w): ∀e a w,sE X w0 ρ0 Q e a w→Exit.then K Q' e a w:=by
 rintro e a w ⟨x,s,ρ,rfl,h1,h2⟩
 cases x with
 |normal=>exact hn s ρ a w h1 h2
 |exit id=>exact he (.exit id) s ρ a w (by simp) h1 h2
 |ret=>exact he .ret s ρ a w (by simp) h1 h2
include hT hct bM in
theorem kF {m:Nat} {lc:List (Nat×LC)}: ∀(n:Nat) {c:Code} {s:St} {p:iM} {o:Out},aK tt ct lc m n c s p=some o→(∀b∈o.obl,b=true)→(∀q∈o.eqs,q)→aF P m lc c→
  aW P m c s (fun e t=>e=o.ex∧t=o.st)∧ ∀body,c=.loop body→ ∀ ⦃X:Nat→Prop⦄ ⦃w0:World⦄ ⦃ρ0 ρ:Rho⦄ ⦃a:Act⦄ ⦃w:World⦄,(∀k,m≤k→ρ0 k=.unborn)→Rel X w0 ρ0 s ρ a w→Code.rounds P body (sE X w0 ρ0 fun e t=>e=o.ex∧t=o.st) n a w:=by
 intro n
 induction n with
 |zero=>intro c s p o h;simp[aK]at h
 |succ n ih=>
  intro c s p o h ho hq hlc
  cases c with
  |skip=>
   simp only[aK,Option.some.injEq]at h;subst h
   exact⟨fun _ _ _ _ _ _ h0 r=>wp_skip ⟨.normal,s,_,rfl,⟨rfl,rfl⟩,r⟩,fun _ h=>by cases h⟩
  |label l=>
   simp only[aK,Option.some.injEq]at h;subst h
   exact⟨fun _ _ _ _ _ _ h0 r=>wp_label ⟨.normal,s,_,rfl,⟨rfl,rfl⟩,r⟩,fun _ h=>by cases h⟩
  |ret=>
   simp only[aK,Option.some.injEq]at h;subst h
   exact⟨fun _ _ _ _ _ _ h0 r=>wp_ret ⟨.ret,s,_,rfl,⟨rfl,rfl⟩,r⟩,fun _ h=>by cases h⟩
  |exit id=>
   simp only[aK,Option.some.injEq]at h;subst h
   exact⟨fun _ _ _ _ _ _ h0 r=>wp_exit ⟨.exit id,s,_,rfl,⟨rfl,rfl⟩,r⟩,fun _ h=>by cases h⟩
  |region id ops draw=>
   simp only[aK]at h
   split at h
   ·cases h
   ·rename_i rs s' p' b hrun
    cases hd:(!draw||rQ ops rs)with
    |false=>rw[hd]at h;cases h
    |true=>
     rw[hd]at h
     simp only[cond_true,Option.some.injEq]at h;subst h
     exact⟨yA hT hct bM hrun ho hd,fun _ h=>by cases h⟩
  |seq x y=>
   refine⟨?_,fun _ h=>by cases h⟩
   simp only[aK]at h
   have hlx:aF P m lc x:=fun q hq=>hlc q (List.mem_append_left _ hq)
   have hly:aF P m lc y:=fun q hq=>hlc q (List.mem_append_right _ hq)
   split at h
   ·rename_i s1 p1 o1 q1 h1
    split at h
    ·rename_i e2 s2 p2 o2 q2 h2
     simp only[Option.some.injEq]at h;subst h
     have g1:=(ih h1 (fun b hb=>ho b (List.mem_append_left _ hb)) (fun q hq'=>hq q (List.mem_append_left _ hq')) hlx).1
     have g2:=(ih h2 (fun b hb=>ho b (List.mem_append_right _ hb)) (fun q hq'=>hq q (List.mem_append_right _ hq')) hly).1
     intro X w0 ρ0 ρ a w h0 r
     refine wp_seq (wp_mono (g1 h0 r) (hO (fun t ρ a w ht r=> ?_) (fun e t ρ a w hne ht r=> ?_)))
     ·obtain⟨_,rfl⟩:=ht;exact g2 h0 r
     ·exact absurd ht.1 hne
    ·cases h
   ·rename_i r1 hne
    cases hr:aK tt ct lc m n x s p with
    |none=>rw[hr]at h;cases h
    |some o1=>
     rw[hr]at h
     simp only[Option.some.injEq]at h;subst h
     have g1:=(ih hr ho hq hlx).1
     intro X w0 ρ0 ρ a w h0 r
     have hnn:o1.ex≠ .normal:=fun e=>by
      obtain⟨ex,st,pa,ob,eq⟩:=o1
      dsimp only at e;subst e
      exact hne _ _ _ _ hr
     refine wp_seq (wp_mono (g1 h0 r) (hO (fun t ρ a w ht r=>absurd ht.1.symm hnn) (fun e t ρ a w hne ht r=>⟨e,t,ρ,rfl,ht,r⟩)))
  |cond x a b=>
   refine⟨?_,fun _ h=>by cases h⟩
   simp only[aK]at h
   split at h
   ·cases h
   ·rename_i t p1 hp
    split at h
    ·rename_i v hv
     split at h
     ·rename_i e s1 p2 o1 q1 h1
      simp only[Option.some.injEq]at h;subst h
      have hb:(bif t then v else !v)=true:=ho _ List.mem_cons_self
      have htv:v=t:=by cases t<;>cases v<;>simp at hb⊢
      subst htv
      have hl1:aF P m lc (bif v then a else b):=fun q hq=>hlc q (by cases v with
       |false=>exact List.mem_append_right _ hq
       |true=>exact List.mem_append_left _ hq)
      have g1:=(ih h1 (fun b hb=>ho b (List.mem_cons_of_mem _ hb)) hq hl1).1
      intro X w0 ρ0 ρ a w h0 r
      have hev:=r.ev x
      rw[hv]at hev
      have hx:=gJ hev
      refine wp_cond hx ?_
      have:=g1 h0 r
      cases v<;>exact this
     ·cases h
    ·cases h
  |block id body=>
   refine⟨?_,fun _ h=>by cases h⟩
   simp only[aK]at h
   split at h
   ·rename_i x hx
    simp only[Option.some.injEq]at h;subst h
    have h3:fit m x.live s=x.pre:=hq _ (by simp)
    have g:=hlc (id,body) List.mem_cons_self x hx
    rw[←h3]at g
    exact(cX.fit m x.live s).good g
   ·have hlb:aF P m lc body:=fun q hq=>hlc q (List.mem_cons_of_mem _ hq)
    split at h
    ·rename_i k s1 p1 o1 q1 h1
     simp only[Option.some.injEq]at h;subst h
     have g1:=(ih h1 ho hq hlb).1
     intro X w0 ρ0 ρ a w h0 r
     refine wp_block (wp_mono (g1 h0 r) ?_)
     rintro e a w ⟨x,t,ρ,rfl,⟨hx,rfl⟩,r'⟩
     dsimp only at hx;subst hx
     simp only[uC,Exit.inBlock]
     split
     ·exact⟨.normal,t,ρ,rfl,⟨rfl,rfl⟩,r'⟩
     ·exact⟨.exit k,t,ρ,rfl,⟨rfl,rfl⟩,r'⟩
    ·rename_i r1 hne
     have g1:=(ih h ho hq hlb).1
     intro X w0 ρ0 ρ a w h0 r
     refine wp_block (wp_mono (g1 h0 r) ?_)
     rintro e a w ⟨x,t,ρ,rfl,⟨hx,rfl⟩,r'⟩
     cases x with
     |normal=>exact⟨.normal,_,ρ,rfl,⟨hx,rfl⟩,r'⟩
     |ret=>exact⟨.ret,_,ρ,rfl,⟨hx,rfl⟩,r'⟩
     |exit k=>
      exfalso
      obtain⟨ex,st,pa,ob,eq⟩:=o
      dsimp only at hx;subst hx
      exact hne _ _ _ _ _ h
  |loop body=>
   simp only[aK]at h
   have hlb:aF P m lc body:=fun q hq=>hlc q hq
   have hr: ∀ ⦃X:Nat→Prop⦄ ⦃w0:World⦄ ⦃ρ0 ρ:Rho⦄ ⦃a:Act⦄ ⦃w:World⦄,(∀k,m≤k→ρ0 k=.unborn)→Rel X w0 ρ0 s ρ a w→Code.rounds P body (sE X w0 ρ0 fun e t=>e=o.ex∧t=o.st) (n+1) a w:=by
    split at h
    ·rename_i s1 p1 o1 q1 h1
     split at h
     ·rename_i e2 s2 p2 o2 q2 h2
      simp only[Option.some.injEq]at h;subst h
      have g1:=(ih h1 (fun b hb=>ho b (List.mem_append_left _ hb)) (fun q hq'=>hq q (List.mem_append_left _ hq')) hlb).1
      have g2:=(ih h2 (fun b hb=>ho b (List.mem_append_right _ hb)) (fun q hq'=>hq q (List.mem_append_right _ hq')) hlc).2
      intro X w0 ρ0 ρ a w h0 r
      rw[rounds_succ]
      refine wp_mono (g1 h0 r) (hO (fun t ρ a w ht r=> ?_) (fun e t ρ a w hne ht r=>absurd ht.1 hne))
      obtain⟨_,rfl⟩:=ht
      exact g2 body rfl h0 r
     ·cases h
    ·rename_i r1 hne
     have g1:=(ih h ho hq hlb).1
     intro X w0 ρ0 ρ a w h0 r
     have hnn:o.ex≠ .normal:=fun e=>by
      obtain⟨ex,st,pa,ob,eq⟩:=o
      dsimp only at e;subst e
      exact hne _ _ _ _ h
     rw[rounds_succ]
     exact wp_mono (g1 h0 r) (hO (fun t ρ a w ht r=>absurd ht.1.symm hnn) (fun e t ρ a w hne ht r=>⟨e,t,ρ,rfl,ht,r⟩))
   exact⟨fun _ _ _ _ _ _ h0 r=>wp_loop_rounds (n+1) (hr h0 r),fun b hb=>by cases hb;exact hr⟩
  |scope c=>simp[aK]at h
  |goto l=>simp[aK]at h
  |rangeFunc f ps x y=>simp[aK]at h
  |refuse w=>simp[aK]at h
theorem aW.loop {α:Type} {m:Nat} {body:Code} (I:α→St) (μ:α→Nat) (Q:α→Ex→St→Prop)
  (h: ∀x,aW P m body (I x) fun e s=>(e=.normal∧ ∃y,μ y<μ x∧cX m s (I y)∧ ∀e t,Q y e t→Q x e t)∨(e≠ .normal∧Q x e s)): ∀x,aW P m (.loop body) (I x) (Q x):=by
 intro x X w0 ρ0 ρ a w h0 r
 have key: ∀n x ρ a w,μ x<n→Rel X w0 ρ0 (I x) ρ a w→Code.rounds P body (sE X w0 ρ0 (Q x)) n a w:=by
  intro n
  induction n with
  |zero=>intro x ρ a w hl;omega
  |succ n ih=>
   intro x ρ a w hl r
   rw[rounds_succ]
   refine wp_mono (h x h0 r) (hO (fun t ρ a w ht r=> ?_) (fun e t ρ a w hne ht r=> ?_))
   ·rcases ht with⟨_,y,hy,hw,hq⟩|⟨hne,_⟩
    ·obtain⟨ρ',r'⟩:=hw h0 r
     exact qS (sE.mono hq) (ih y ρ' a w (by omega) r')
    ·exact absurd rfl hne
   ·rcases ht with⟨he,_⟩|⟨_,hq⟩
    ·exact absurd he hne
    ·exact⟨e,t,ρ,rfl,hq,r⟩
 exact wp_loop_rounds (μ x+1) (key _ x ρ a w (Nat.lt_succ_self _) r)
theorem aW.block {m id:Nat} {c:Code} {s:St} {Q:Ex→St→Prop} (g:aW P m c s fun e t=>(e=.exit id∧Q .normal t)∨(e≠ .exit id∧Q e t)):aW P m (.block id c) s Q:=by
 intro X w0 ρ0 ρ a w h0 r
 refine wp_block (wp_mono (g h0 r) ?_)
 rintro e a w ⟨x,t,ρ,rfl,hx,r'⟩
 rcases hx with⟨rfl,hq⟩|⟨hne,hq⟩
 ·simp only[uC,Exit.inBlock,if_true]
  exact⟨.normal,t,ρ,rfl,hq,r'⟩
 ·cases x with
  |normal=>exact⟨.normal,t,ρ,rfl,hq,r'⟩
  |ret=>exact⟨.ret,t,ρ,rfl,hq,r'⟩
  |exit k=>
   simp only[uC,Exit.inBlock]
   rw[if_neg (fun e=>hne (by rw[e]))]
   exact⟨.exit k,t,ρ,rfl,hq,r'⟩
theorem aW.weaken {m:Nat} {c:Code} {s:St} {Q Q':Ex→St→Prop} (g:aW P m c s Q) (h: ∀e t,Q e t→ ∃t',cX m t t'∧Q' e t'):aW P m c s Q':=fun _ _ _ _ _ _ h0 r=>
 wp_mono (g h0 r) fun _ _ _ ⟨x,t,ρ,h1,h2,h3⟩=>by
  obtain⟨t',hw,hq⟩:=h x t h2
  obtain⟨ρ',r'⟩:=hw h0 h3
  exact⟨x,t',ρ',h1,hq,r'⟩
def CD (id:Nat) (c:Code):List Code:=((jD c).filter fun q=>q.1==id).map (·.2)
def a6 (id:Nat) (c:Code):Code:=
 match CD id c with
 |[.loop b]=>b
 |_=> .skip
def CP (id:Nat) (c:Code):Bool:=
 match CD id c with
 |[.loop _]=>true
 |_=>false
theorem zQ {id:Nat} {c:Code} (h:CP id c=true): ∀q∈jD c,q.1=id→q.2=.loop (a6 id c):=by
 intro q hq hid
 have hm:q.2∈CD id c:=List.mem_map.2 ⟨q,List.mem_filter.2 ⟨hq,by simp[hid]⟩,rfl⟩
 unfold CP at h
 split at h
 ·rename_i b hb
  rw[hb]at hm
  have:a6 id c=b:=by unfold a6;rw[hb]
  rw[this];simpa using hm
 ·cases h
theorem aF.nil {m:Nat} {c:Code}:aF P m [] c:=by intro q hq x hx;cases hx
theorem aF.cons {m id:Nat} {c:Code} {x:LC} {lc:List (Nat×LC)} (hl:CP id c=true) (g:aW P m (.block id (.loop (a6 id c))) x.pre fun e s=>e=x.ex∧s=x.post) (r:aF P m lc c):
  aF P m ((id,x)::lc) c:=by
 intro q hq y hy
 simp only[xU]at hy
 split at hy
 ·rename_i e
  injection hy with hy;subst hy
  rw[zQ hl q hq e.symm,←e];exact g
 ·exact r q hq y hy
include hT hct bM in
theorem aW.rounds {m id:Nat} {body:Code} {α:Type} (Inv:α→Prop) (I:α→St) (μ:α→Nat) (live liveX:List Nat) (ex:α→Ex) (post:α→St) (lc:α→List (Nat×LC))
  (hlc: ∀x,Inv x→aF P m (lc x) body)
  (h: ∀x,Inv x→ ∃n p o,aK tt ct (lc x) m n body (I x) p=some o∧(∀b∈o.obl,b=true)∧(∀q∈o.eqs,q)∧
   ((o.ex=.normal∧ ∃y,Inv y∧μ y<μ x∧fit m live o.st=I y∧ex y=ex x∧post y=post x)∨(o.ex=.exit id∧ex x=.normal∧fit m liveX o.st=post x)∨
    (o.ex≠ .normal∧o.ex≠ .exit id∧ex x=o.ex∧fit m liveX o.st=post x))):
  ∀x,Inv x→aW P m (.block id (.loop body)) (I x) fun e t=>e=ex x∧t=post x:=by
 intro x0 hx0
 let Q: {x//Inv x}→Ex→St→Prop:=fun x e t=>e≠ .normal∧(if e=.exit id then ex x.1=.normal else ex x.1=e)∧fit m liveX t=post x.1
 have key:=aW.loop (P:=P) (m:=m) (body:=body) (α:= {x//Inv x}) (fun x=>I x.1) (fun x=>μ x.1) Q (fun x=>by
  obtain⟨n,p,o,he,ho,hq,hc⟩:=h x.1 x.2
  refine((kF hT hct bM n he ho hq (hlc x.1 x.2)).1).mono fun e t ⟨h1,h2⟩=> ?_
  subst h1 h2
  rcases hc with⟨hn,y,hy,hm,hf,e1,e2⟩|⟨hn,e1,e2⟩|⟨h1,h2,h3,h4⟩
  ·refine .inl ⟨hn,⟨y,hy⟩,hm,by rw[←hf];exact cX.fit m live _,fun e t hq=> ?_⟩
   simp only[Q,e1,e2]at hq⊢;exact hq
  ·refine .inr ⟨by rw[hn];simp,by rw[hn];simp,by rw[hn];simp[e1],e2⟩
  ·exact .inr ⟨h1,h1,by rw[if_neg h2];exact h3,h4⟩) ⟨x0,hx0⟩
 refine(aW.block (Q:=fun e t=>e=ex x0∧fit m liveX t=post x0) (key.mono fun e t hq=> ?_)).weaken fun e t ⟨h1,h2⟩=>⟨post x0,by rw[←h2];exact cX.fit m liveX t,h1,rfl⟩
 obtain⟨h1,h2,h3⟩:=hq
 by_cases e1:e=.exit id
 ·rw[if_pos e1]at h2
  exact .inl ⟨e1,h2.symm,h3⟩
 ·rw[if_neg e1]at h2
  exact .inr ⟨e1,h2.symm,h3⟩
def bE (P:Program) (f:FuncId) (args:List AV) (h:List b9) (res:AV) (h':List b9):Prop:=
 (∃fn,P.funcs[f]? =some fn∧fn.body.isSome=true∧(fn.name== "runtime.NumGoroutine")=false)∧
 ∀ {X:Nat→Prop} {w0:World} {ρ0:Rho},Mem X w0 (bL ρ0) h ρ0 w0→ ∀(vs:List Value),vs.length=args.length→(∀q,q<args.length→AVR X w0 ρ0 (args.getD q .any) (vs.getD q undef))→
  Calls P f vs.toArray w0 fun e w'=> ∃v ρ',e=.returned v∧eH w0 (bL ρ0) w' (bL ρ')∧cF ρ0 ρ'∧Mem X w0 (bL ρ0) h' ρ' w'∧AVR X w' ρ' res v
def w6:List Value→Value
 |[u]=>u
 |us=> .tuple us.toArray
def nX (a:Act):ResultVar→Sem Value
 |.tmp t=>pure (a.tmps.getD t undef)
 |.cell ad t=>do loadVar t (←asAddr (a.tmps.getD ad undef))
include hT in
theorem lV {w0:World} {ρ0:Rho} {s:St} {ρ:Rho} {a:Act} {w:World} (r:Rel X w0 ρ0 s ρ a w): ∀ {l:List ResultVar} {vs:List AV} {o:List Bool},oA tt s l=some (vs,o)→(∀b∈o,b=true)→
  ∃us:List Value,(l.mapM (nX a)).run P w=.ok us w∧us.length=vs.length∧ ∀i,i<vs.length→AVR X w ρ (vs.getD i (.tup [])) (us.getD i undef)
 |[],vs,o,h,ho=>by
  simp only[oA,Option.some.injEq,Prod.mk.injEq]at h
  obtain⟨rfl,rfl⟩:=h
  exact⟨[],by simp,rfl,fun i hi=>by simp at hi⟩
 |x::l,vs,o,h,ho=>by
  simp only[oA]at h
  split at h
  ·rename_i v o1 vs1 o2 h1 h2
   simp only[Option.some.injEq,Prod.mk.injEq]at h
   obtain⟨rfl,rfl⟩:=h
   obtain⟨us,g1,g2,g3⟩:=lV r h2 (fun b hb=>ho b (List.mem_append_right _ hb))
   have hd: ∃u,(nX a x).run P w=.ok u w∧AVR X w ρ v u:=by
    cases x with
    |tmp t=>
     simp only[CY,Option.some.injEq,Prod.mk.injEq]at h1
     obtain⟨rfl,rfl⟩:=h1
     exact⟨_,rfl,r.ev (.tmp t)⟩
    |cell ad t=>
     simp only[CY]at h1
     obtain⟨e,he,h3⟩:=Option.map_eq_some_iff.1 h1
     injection h3 with h3 h4;subst h3 h4
     have hx:=r.ev (.tmp ad)
     obtain⟨u,q1,q2,q3,ad',q4⟩:=tC hT r.mem (get:=Heap.get s.heap) (fun _ _ h=>h) hx he (fun b hb=>ho b (List.mem_append_left _ hb))
     refine⟨u, ?_,q2⟩
     have q4':a.tmps.getD ad undef=.pointer (some ad'):=q4
     rw[q4]at q1
     simpa [nX,q4',asAddr,Instr.loadAt,Instr.sureAddr]using q1
   obtain⟨u,d1,d2⟩:=hd
   refine⟨u::us, ?_,by simp[g2],fun i hi=> ?_⟩
   ·simp only[List.mapM_cons,Sem.run_bind,d1,Result.andThen_ok,g1,Sem.run_pure]
   ·cases i with
    |zero=>simpa using d2
    |succ i=>simpa using g3 i (by simpa using hi)
  ·cases h
theorem D0 (fn:Func) (a:Act):results fn a.tmps=(do let vs←fn.results.mapM (nX a);pure (if h:vs.size=1 then vs[0]else .tuple vs)):=by
 unfold results
 congr 1
theorem kX: ∀ {l:List Bool},HI l=true→ ∀b∈l,b=true
 |[],_,b,h=>by cases h
 |x::r,h,b,hb=>by
  simp only[HI,Bool.and_eq_true]at h
  rcases List.mem_cons.1 hb with e|e
  ·subst e;exact h.1
  ·exact kX h.2 b e
include hT hct bM in
theorem qG {lc:List (Nat×LC)} {fuel:Nat} {f:FuncId} {fn:Func} {args:List AV} {h:List b9} {p:iM} {o:xG} (hf:P.funcs[f]? =some fn) (hnm:(fn.name== "runtime.NumGoroutine")=false)
  (he:aG tt ct lc fuel fn args h p=some o) (ho:o.obl=true) (hq: ∀q∈o.eqs,q) (hlc: ∀c,fn.body=some c→aF P h.length lc c):bE P f args h o.res o.heap:=by
 unfold aG at he
 split at he
 ·cases he
 ·rename_i c hbody
  refine⟨⟨fn,hf,by simp[hbody],hnm⟩,fun {X w0 ρ0} hmem vs hvl hva=> ?_⟩
  split at he
  ·cases he
  ·rename_i ex s p' o1 q hne hev
   split at he
   ·cases he
   ·rename_i rs o2 hres
    simp only[Option.some.injEq]at he
    subst he
    dsimp only at ho hq⊢
    have hob:=kX ho
    have hgood:=(kF hT hct bM fuel hev (fun b hb=>hob b (List.mem_append_left _ hb)) hq (hlc c hbody)).1
    have hrel:Rel X w0 ρ0 (EG fn args h) ρ0 {tmps:=vs.toArray++Array.replicate (fn.ntmps-vs.toArray.size) undef,defers:=[]} w0:=by
     refine⟨by simp[EG,hvl],fun t ht=> ?_,hmem,rfl,eH.refl _ _,cF.refl _⟩
     simp only[EG]
     by_cases h1:t<args.length
     ·have:=hva t h1
      have h2:t<vs.length:=by omega
      have e1:(args++List.replicate (fn.ntmps-args.length) (AV.tup [])).getD t (.tup [])=args.getD t .any:=by
       simp[List.getD_eq_getElem?_getD,List.getElem?_append,h1]
      have e2:(vs.toArray++Array.replicate (fn.ntmps-vs.toArray.size) undef).getD t undef=vs.getD t undef:=by
       simp[Array.getD_eq_getD_getElem?,Array.getElem?_append,h2]
      rw[e1,e2];exact this
     ·have h2: ¬t<vs.length:=by omega
      have e1:(args++List.replicate (fn.ntmps-args.length) (AV.tup [])).getD t (.tup [])=.tup []:=by
       simp only[List.getD_eq_getElem?_getD,List.getElem?_append,h1,if_false,List.getElem?_replicate]
       split<;>rfl
      have e2:(vs.toArray++Array.replicate (fn.ntmps-vs.toArray.size) undef).getD t undef=undef:=by
       simp only[Array.getD_eq_getD_getElem?,Array.getElem?_append,List.size_toArray,h2,if_false,Array.getElem?_replicate]
       split<;>rfl
      rw[e1,e2];exact oW w0 ρ0
    have h0: ∀k,h.length≤k→ρ0 k=.unborn:=fun k hk=>by
     have:=hmem.slot k
     rw[Heap.get_ge hk]at this
     cases hx:ρ0 k<;>rw[hx]at this<;>first|rfl|exact this.elim
    refine calls_of_wp hf hbody (wp_mono (hgood h0 hrel) ?_)
    rintro e a w ⟨x,t,ρ,rfl,⟨hx,rfl⟩,r⟩
    dsimp only at hx r
    obtain⟨us,g1,g2,g3⟩:=lV hT r hres (fun b hb=>hob b (List.mem_append_right _ hb))
    have hrun:(results fn a.tmps).run P w=.ok (w6 us) w:=by
     rw[D0]
     have e1:(fn.results.mapM (nX a)).run P w=.ok us.toArray w:=by
      rw[Array.mapM_eq_mapM_toList]
      simp[g1]
     simp only[Sem.run_bind,e1,Result.andThen_ok,Sem.run_pure]
     congr 1
     cases us with
     |nil=>simp[w6]
     |cons u us=>cases us<;>simp[w6]
    have hres':AVR X w ρ (rC rs) (w6 us):=by
     have tup:AVR X w ρ (.tup rs) (.tuple us.toArray):=.tup _ _ (by simp[g2]) fun i hi=>by
      have:=g3 i hi
      simpa [Array.getD_eq_getD_getElem?,List.getD_eq_getElem?_getD]using this
     cases rs with
     |nil=>cases us with
      |nil=>exact tup
      |cons u us=>simp at g2
     |cons v rs=>
      cases us with
      |nil=>simp at g2
      |cons u us=>
       cases rs with
       |nil=>
        cases us with
        |nil=>have:=g3 0 (by simp);simpa [rC,w6]using this
        |cons u' us=>simp at g2
       |cons v' rs=>
        cases us with
        |nil=>simp at g2
        |cons u' us=>exact tup
    have hn:cT (eL h.length (rC rs) t.heap)=true:=by
     unfold eL
     exact fN _ _ (fN _ _ (jI _ _))
    have hroots:fM h.length 0 (eL h.length (rC rs) t.heap)=true:=by
     unfold eL
     exact fO _ _ _ _ (fO _ _ _ _ (jJ _ _))
    have hend: ∃v ρ',(Ending.returned (w6 us))=.returned v∧eH w0 (bL ρ0) w (bL ρ')∧cF ρ0 ρ'∧
      Mem X w0 (bL ρ0) ((eL h.length (rC rs) t.heap).map fun id=>(Heap.get t.heap id).ren (eL h.length (rC rs) t.heap)) ρ' w∧
      AVR X w ρ' ((rC rs).ren (eL h.length (rC rs) t.heap)) v:=by
     refine⟨_,c6 t.heap (eL h.length (rC rs) t.heap) ρ,rfl, ?_, ?_,r.mem.ren hn,hres'.ren (dF _ _ _) (dN _ _ _)⟩
     ·exact r.mono.trans ⟨fun _ _ _=>rfl,fun _ _=>rfl,Nat.le_refl _,fun b hb=> .inl (dF _ _ _ b hb)⟩
     ·have one: ∀k,ρ0 k≠ .unborn→c6 t.heap (eL h.length (rC rs) t.heap) ρ k=ρ k∨c6 t.heap (eL h.length (rC rs) t.heap) ρ k=.dead:=fun k hk=>by
       have hlt:k<h.length:=by
        rcases Nat.lt_or_ge k h.length with h'|h'
        ·exact h'
        ·exact absurd (h0 k h') hk
       have:=kP hroots k hlt
       rw[Nat.zero_add]at this
       exact eU this
      refine⟨fun id h=> ?_,fun id h=> ?_,fun id b h=> ?_⟩
      ·rcases one id (by rw[h];simp)with e|e
       ·rw[e];exact r.ids.dead id h
       ·exact e
      ·rcases one id (by rw[h];simp)with e|e
       ·rw[e];exact r.ids.nil id h
       ·exact .inr e
      ·rcases one id (by rw[h];simp)with e|e
       ·rw[e];exact r.ids.at_ id b h
       ·exact .inr e
    cases x with
    |normal=>exact⟨r.defers,_,hrun,hend⟩
    |ret=>exact⟨r.defers,_,hrun,hend⟩
    |exit k=>exact(hne k hx.symm).elim
  ·cases he
end
end
section
mutual
def aJ.back (l:List Nat):aJ→aJ
 |.ptr id i es j=> .ptr (l.getD id 0) i es j
 |.sl id o len es cap=> .sl (l.getD id 0) o len es cap
 |.fn f caps=> .fn f (lP l caps)
 |x=>x
def lP (l:List Nat):List aJ→List aJ
 |[]=>[]
 |x::r=>x.back l::lP l r
end
mutual
def AV.back (l:List Nat):AV→AV
 |.any=> .any
 |.c x=> .c (x.back l)
 |.agg cs=> .agg (lP l cs)
 |.tup vs=> .tup (q9 l vs)
def q9 (l:List Nat):List AV→List AV
 |[]=>[]
 |x::r=>x.back l::q9 l r
end
def b9.back (l:List Nat):b9→b9
 |.live (.cells cs)=> .live (.cells (lP l cs))
 |s=>s
mutual
def aJ.vfree:aJ→Bool
 |.vptr .. =>false
 |.view .. =>false
 |.fn _ l=>pW l
 |_=>true
def pW:List aJ→Bool
 |[]=>true
 |x::r=>x.vfree&&pW r
end
mutual
def AV.vfree:AV→Bool
 |.any=>true
 |.c x=>x.vfree
 |.agg cs=>pW cs
 |.tup vs=>uD vs
def uD:List AV→Bool
 |[]=>true
 |x::r=>x.vfree&&uD r
end
def b9.vfree:b9→Bool
 |.live (.ivs ..)=>false
 |.live (.recs ..)=>false
 |.live (.cells cs)=>pW cs
 |_=>true
def b9.plain:b9→Bool
 |.live (.recs ..)=>false
 |_=>true
theorem jB (l:List Nat): ∀(cs:List aJ) (i:Nat),(lP l cs).getD i .any=(cs.getD i .any).back l
 |[],i=>by simp[lP,aJ.back]
 |x::r,0=>by simp[lP]
 |x::r,i+1=>by simpa [lP]using jB l r i
theorem dD (l:List Nat): ∀cs:List aJ,(lP l cs).length=cs.length
 |[]=>rfl
 |x::r=>by simp[lP,dD l r]
theorem sL (l:List Nat): ∀(vs:List AV) (i:Nat),(q9 l vs).getD i (.tup [])=(vs.getD i (.tup [])).back l
 |[],i=>by simp[q9,AV.back]
 |x::r,0=>by simp[q9]
 |x::r,i+1=>by simpa [q9]using sL l r i
theorem jC (l:List Nat): ∀cs:List AV,(q9 l cs).length=cs.length
 |[]=>rfl
 |x::r=>by simp[q9,jC l r]
theorem iC: ∀ {cs:List aJ},pW cs=true→ ∀i,(cs.getD i .any).vfree=true
 |[],_,i=>by simp[aJ.vfree]
 |x::r,h,i=>by
  simp only[pW,Bool.and_eq_true]at h
  cases i with
  |zero=>simpa using h.1
  |succ i=>simpa using iC h.2 i
theorem qW: ∀ {cs:List AV},uD cs=true→ ∀i,(cs.getD i (.tup [])).vfree=true
 |[],_,i=>by simp[AV.vfree,uD]
 |x::r,h,i=>by
  simp only[uD,Bool.and_eq_true]at h
  cases i with
  |zero=>simpa using h.1
  |succ i=>simpa using qW h.2 i
def DB (l:List Nat) (ρ1 ρ':Rho):Prop:= ∀k,ρ1 k≠ .unborn→ρ' (l.getD k 0)=ρ1 k
theorem CR0.back {w:World} {L L':Nat→Prop} {l:List Nat} {ρ:Rho} {c:aJ} {v:Value} (h:CR0 w L ρ c v):
  ∀ {ρ':Rho},((∀b,L' b→L b)∨c.vfree=true)→DB l ρ ρ'→CR0 w L' ρ' (c.back l) v:=by
 induction h with
 |any v h=>exact fun _ _=> .any v h
 |int k n=>exact fun _ _=> .int k n
 |bool b=>exact fun _ _=> .bool b
 |str s=>exact fun _ _=> .str s
 |nilp=>exact fun _ _=> .nilp
 |nils=>exact fun _ _=> .nils
 |nilf=>exact fun _ _=> .nilf
 |ptrDead id i es j v hd h=>exact fun _ hb=> .ptrDead _ i es j v (by rw[hb id (by rw[hd];simp),hd]) h
 |ptr id i es j b hb=>exact fun _ h=> .ptr _ i es j b (by rw[h id (by rw[hb];simp),hb])
 |slDead id o len es cap v hd h=>exact fun _ hb=> .slDead _ o len es cap v (by rw[hb id (by rw[hd];simp),hd]) h
 |sl id o len es cap b c ty n hb hs hn hl hc=>exact fun _ h=> .sl _ o len es cap b c ty n (by rw[h id (by rw[hb];simp),hb]) hs hn hl hc
 |slNone id o es cap a h1 hc=>exact fun _ h=> .slNone _ o es cap a (by rw[h id h1];exact h1) hc
 |vptr c i es j b base u hl hc hu ih=>
  intro ρ' hL _
  rcases hL with hL|hL
  ·have mb:eH w _ w L':=⟨fun _ _ _=>rfl,fun _ _=>rfl,Nat.le_refl _,fun b hb=> .inl (hL b hb)⟩
   exact .vptr c i es j b base u (fun h0 hb=>hl h0 (hL b hb)) hc (fun q hq=>(hu q hq).mono mb (.refl _))
  ·simp[aJ.vfree]at hL
 |view nl c len es cap b base k u hl hc hu hz hk hcap hnl ih=>
  intro ρ' hL _
  rcases hL with hL|hL
  ·have mb:eH w _ w L':=⟨fun _ _ _=>rfl,fun _ _=>rfl,Nat.le_refl _,fun b hb=> .inl (hL b hb)⟩
   exact .view nl c len es cap b base k u (fun h0 hb=>hl h0 (hL b hb)) hc (fun q hq=>(hu q hq).mono mb (.refl _)) hz hk hcap hnl
  ·simp[aJ.vfree]at hL
 |viewNone nl c es cap a k hz hcap hnl hk=>exact fun _ _=> .viewNone nl c es cap a k hz hcap hnl hk
 |fn f caps vs hs h ih=>
  intro ρ' hL hr
  simp only[aJ.back]
  refine .fn f _ vs (by rw[dD];exact hs) fun i hi=> ?_
  rw[dD]at hi
  rw[jB]
  refine ih i hi (hL.imp id fun h=> ?_) hr
  simp only[aJ.vfree]at h
  exact iC h i
theorem AVR.back {X Y:Nat→Prop} {w:World} {ρ ρ':Rho} {l:List Nat} (hr:DB l ρ ρ') {x:AV} {v:Value} (h:AVR X w ρ x v):
  ((∀b,(bL ρ' b∨Y b)→(bL ρ b∨X b))∨x.vfree=true)→AVR Y w ρ' (x.back l) v:=by
 induction h with
 |any v=>exact fun _=> .any v
 |c x v h=>exact fun hL=> .c _ _ (CR0.back h (hL.imp id fun h=>by simpa [AV.vfree]using h) hr)
 |agg cs vs hs h=>
  intro hL
  simp only[AV.back]
  refine .agg _ _ (by rw[dD];exact hs) fun i hi=> ?_
  rw[dD]at hi;rw[jB]
  exact CR0.back (h i hi) (hL.imp id fun h=>iC (by simpa [AV.vfree]using h) i) hr
 |tup cs vs hs h ih=>
  intro hL
  simp only[AV.back]
  refine .tup _ _ (by rw[jC];exact hs) fun i hi=> ?_
  rw[jC]at hi;rw[sL]
  exact ih i hi (hL.imp id fun h=>qW (by simpa [AV.vfree]using h) i)
theorem dW.back {X Y:Nat→Prop} {w:World} {ρ ρ':Rho} {l:List Nat} (hr:DB l ρ ρ') {s:b9} {x:Wh} (hp:s.plain=true) (h:dW X w ρ s x)
  (hL:(∀b,(bL ρ' b∨Y b)→(bL ρ b∨X b))∨s.vfree=true):dW Y w ρ' (s.back l) x:=by
 cases s with
 |unborn=>cases x<;>exact h
 |dead=>cases x<;>exact h
 |live c=>
  have flat:(∀q,((c.cell q).back l)=c.cell q)→((∀b,(bL ρ' b∨Y b)→(bL ρ b∨X b))∨ ∀q,(c.cell q).vfree=true)→dW Y w ρ' (.live c) x:=by
   intro hb hv
   cases x with
   |unborn=>exact h
   |dead=>exact h
   |nil=>exact h
   |row b=>
    obtain⟨cs,ty,e,h1,h2⟩:=h
    refine⟨cs,ty,e,h1,fun q hq=> ?_⟩
    have:=CR0.back (l:=l) (L':=fun b=>bL ρ' b∨Y b) (h2 q hq) (hv.imp id fun h=>h q) hr
    rwa[hb q]at this
  cases c with
  |recs=>simp[b9.plain]at hp
  |ints k xs=>exact flat (fun q=>by simp[Con.cell,aJ.back]) (.inr fun q=>by simp[Con.cell,aJ.vfree])
  |bools xs=>exact flat (fun q=>by simp[Con.cell,aJ.back]) (.inr fun q=>by simp[Con.cell,aJ.vfree])
  |ivs k xss=>exact flat (fun q=>by simp[Con.cell,aJ.back]) (hL.imp id fun h=>by simp[b9.vfree]at h)
  |cells cs=>
   simp only[b9.back]
   cases x with
   |unborn=>exact h
   |dead=>exact h
   |nil=>simp only[dW,Con.size,dD]at h⊢;exact h
   |row b=>
    obtain⟨vs,ty,e,h1,h2⟩:=h
    refine⟨vs,ty,e,by simpa [Con.size,dD]using h1,fun q hq=> ?_⟩
    simp only[Con.size,dD]at hq
    simp only[Con.cell]
    rw[jB]
    exact CR0.back (h2 q hq) (hL.imp id fun h=>iC (by simpa [b9.vfree]using h) q) hr
def vwC (get:Get):aJ→Option (aJ×List Bool)
 |.sl id 0 len es cap=>match get id with
  |.live c=>bif c.free then some (.view none c len es cap,[decide (ix len es 0=c.size)])else none
  |_=>none
 |.sl id o len es cap=>match get id with
  |.live c=>bif c.free then(c.sub es (some o) none).map fun c'=>(.view none c' len es cap,[decide (ix (o+len) es 0=c.size)])else none
  |_=>none
 |.ptr id i es j=>match get id with
  |.live c=>bif c.free then some (.vptr c i es j,[])else none
  |_=>none
 |_=>none
def cvC (get:Get) (roots:List Nat) (x:aJ):Option (aJ×List Bool×Bool):=
 bif x.ids.all roots.elem then some (x.ren roots,[],false)else(vwC get x).map fun(y,o)=>(y,o,true)
def cvL (get:Get) (roots:List Nat):List aJ→Option (List aJ×List Bool×Bool)
 |[]=>some ([],[],false)
 |x::r=>match cvC get roots x,cvL get roots r with
  |some (y,o,b),some (ys,o',b')=>some (y::ys,o++o',b||b')
  |_,_=>none
def cvA (get:Get) (roots:List Nat):AV→Option (AV×List Bool×Bool)
 |.any=>some (.any,[],false)
 |.c x=>(cvC get roots x).map fun(y,o,b)=>(.c y,o,b)
 |.agg cs=>(cvL get roots cs).map fun(y,o,b)=>(.agg y,o,b)
 |.tup _=>none
def DV (get:Get) (roots:List Nat):List AV→Option (List AV×List Bool×Bool)
 |[]=>some ([],[],false)
 |x::r=>match cvA get roots x,DV get roots r with
  |some (y,o,b),some (ys,o',b')=>some (y::ys,o++o',b||b')
  |_,_=>none
def FZ (l:List Nat):List Nat→List b9→List (Nat×b9)
 |x::t,s::r=>(x,s.back l)::FZ l t r
 |_,_=>[]
abbrev aQ:=List AV→List b9→Option (AV×List b9×List Bool)
def CS (get:Get) (id:Nat):Bool:=i4 get id&&(get id).plain
def HQ (F:aQ) (roots:List Nat) (args:List AV) (get:Get) (base:Nat):Option Eff:=
 bif cT roots&&roots.all (CS get)then
  match DV get roots args with
  |none=>none
  |some (cargs,o,vd)=>
   match F cargs (roots.map fun id=>(get id).ren roots)with
   |none=>none
   |some (res,h1,o')=>
    bif Nat.ble roots.length h1.length&&Nat.ble h1.length (roots.length+8)&&(!vd||(res.vfree&&h1.all b9.vfree))&&h1.all b9.plain then
     some {val:=res.back (roots++cN 8 base),sets:=FZ (roots++cN 8 base) (roots++cN 8 base) h1,obl:=o++o'}
    else none
 else none
def aS (P:Program) (f:FuncId) (F:aQ):Prop:= ∀args h res h' o,F args h=some (res,h',o)→(∀b∈o,b=true)→bE P f args h res h'
end
section
theorem idx?_none: ∀ {l:List Nat} {id:Nat},idx? l id=none→id∉l
 |[],id,_=>by simp
 |x::r,id,h=>by
  simp only[idx?]at h
  split at h
  ·cases h
  ·rename_i e
   simp only[Option.map_eq_none_iff]at h
   intro hm
   rcases List.mem_cons.1 hm with hm|hm
   ·exact e hm.symm
   ·exact idx?_none h hm
theorem idx?_some {l:List Nat} {id k:Nat} (hn:cT l=true) (h:l[k]? =some id):idx? l id=some k:=by
 cases hi:idx? l id with
 |none=>exact absurd (List.mem_of_getElem? h) (idx?_none hi)
 |some j=>rw[lB hn (idx?_spec hi) h]
theorem tN: ∀(n k i:Nat),(cN n k)[i]? =if i<n then some (k+i)else none
 |0,k,i=>by simp[cN]
 |n+1,k,0=>by simp[cN]
 |n+1,k,i+1=>by
  simp only[cN,List.getElem?_cons_succ,tN n (k+1) i,Nat.add_lt_add_iff_right]
  split
  ·congr 1;omega
  ·rfl
theorem tO: ∀(n k:Nat),(cN n k).length=n
 |0,_=>rfl
 |n+1,k=>by simp[cN,tO n]
theorem JI {l:List Nat} (h: ∀(i j x:Nat),l[i]? =some x→l[j]? =some x→i=j):cT l=true:=by
 induction l with
 |nil=>rfl
 |cons y r ih=>
  simp only[cT,Bool.and_eq_true,Bool.not_eq_true']
  refine⟨?_,ih fun i j x hi hj=> ?_⟩
  ·cases hc:r.elem y with
   |false=>rfl
   |true=>
    have:y∈r:=by simpa using hc
    obtain⟨i,hi⟩:=List.getElem?_of_mem this
    have:=h 0 (i+1) y (by simp) (by simpa using hi)
    omega
  ·have:=h (i+1) (j+1) x (by simpa using hi) (by simpa using hj)
   omega
theorem AH (l:List Nat): ∀(t:List Nat) (hs:List b9) (h:List b9) (id:Nat),cT t=true→(∀x∈t,x<h.length)→
  Heap.get (d5 h (FZ l t hs)) id=match idx? t id with
   |some k=>if k<hs.length then(Heap.get hs k).back l else Heap.get h id
   |none=>Heap.get h id
 |[],hs,h,id,_,_=>by simp[FZ,d5,idx?]
 |x::t,[],h,id,_,_=>by
  simp only[FZ,d5]
  split<;>simp
 |x::t,s::r,h,id,hn,hl=>by
  have hx:=hl x List.mem_cons_self
  simp only[cT,Bool.and_eq_true,Bool.not_eq_true']at hn
  have hxt:x∉t:=fun hm=>by rw[List.elem_eq_true_of_mem hm]at hn;cases hn.1
  simp only[FZ,d5]
  rw[AH l t r (h.set x (s.back l)) id hn.2 (fun y hy=>by simpa using hl y (List.mem_cons_of_mem _ hy)),Heap.get_set]
  simp only[idx?]
  by_cases e:x=id
  ·subst e
   have:idx? t x=none:=by
    cases hi:idx? t x with
    |none=>rfl
    |some k=>exact absurd (List.mem_of_getElem? (idx?_spec hi)) hxt
   rw[this]
   simp[hx,Heap.get]
  ·rw[if_neg e]
   have e': ¬id=x:=fun h=>e h.symm
   cases hi:idx? t id with
   |none=>simp[e']
   |some k=>
    simp only[Option.map_some,List.length_cons,Nat.add_lt_add_iff_right]
    split
    ·simp[Heap.get]
    ·simp[e']
theorem vJ {X Y:Nat→Prop} {w0 w:World} {M:Nat→Prop} {h:List b9} {ρ ρ0:Rho} (m:Mem X w0 M h ρ w) {get:Get} (hg: ∀id c,get id=.live c→Heap.get h id=.live c) {roots:List Nat}
  (hr:kW roots ρ ρ0) (hb: ∀k b,ρ0 k=.row b→ ∃id,roots[k]? =some id∧ρ id=.row b) {x y:aJ} {o:List Bool} {vd:Bool} {v:Value} (hc:cvC get roots x=some (y,o,vd)) (ho: ∀b∈o,b=true)
  (hL: ∀b,(bL ρ0 b∨Y b)→(bL ρ b∨X b)) (hv:vd=true→ ∀b, ¬Y b) (hx:CR X w ρ x v):CR Y w ρ0 y v:=by
 unfold cvC at hc
 cases ha:x.ids.all roots.elem with
 |true=>
  rw[ha]at hc
  injection hc with hc;injection hc with h1 h2;subst h1
  exact CR0.ren hL hx hr
 |false=>
  rw[ha]at hc
  obtain⟨⟨y',o'⟩,h1,h2⟩:=Option.map_eq_some_iff.1 hc
  injection h2 with h2 h3;injection h3 with h3 h4;subst h2 h3 h4
  have hY:=hv rfl
  have notL: ∀ {id b},roots.elem id=false→ρ id=.row b→ ¬(bL ρ0 b∨Y b):=by
   rintro id b hid hrow (⟨k,hk⟩|hyb)
   ·obtain⟨j,j1,j2⟩:=hb k b hk
    have:=m.inj id j b hrow j2
    subst this
    rw[List.elem_eq_true_of_mem (List.mem_of_getElem? j1)]at hid;cases hid
   ·exact hY b hyb
  have mb:eH w (fun b=>bL ρ b∨X b) w (fun b=>bL ρ0 b∨Y b):=⟨fun _ _ _=>rfl,fun _ _=>rfl,Nat.le_refl _,fun b hb=> .inl (hL b hb)⟩
  unfold vwC at h1
  split at h1
  ·rename_i id len es cap
   have hid:roots.elem id=false:=by simpa [aJ.ids]using ha
   split at h1
   ·rename_i c hs
    cases hfr:c.free with
    |false=>rw[hfr]at h1;cases h1
    |true=>
    rw[hfr]at h1
    injection h1 with h1;injection h1 with e1 e2;subst e1 e2
    have hz:len*es=c.size:=by simpa [dI]using ho _ (List.mem_singleton.2 rfl)
    rcases d7 m (hg _ _ hs) hx with⟨b,k,ty,n,hb',rfl,⟨cs,ty',hrow,hsz,hcs⟩,hsh,hn,hl,hcap⟩|⟨a,rfl,rfl,hcap⟩
    ·rw[Nat.zero_mul]
     refine .view none c len es cap b 0 k (fun q=>cs.getD q undef) (fun _=>notL hid hb') (fun q hq=> ?_) (fun q hq=>((hcs q hq).free (eT hfr q)).mono mb (cF.noIds _)) hz hl hcap (fun _ h=>by cases h)
     have hq':q<cs.size:=by omega
     simp[World.cell?,hrow,Array.getD,hq']
    ·exact .viewNone none c es cap a 0 (by omega) hcap (fun _ h=>by cases h) (fun _=>rfl)
   ·cases h1
  ·rename_i id o len es cap hne
   have hid:roots.elem id=false:=by simpa [aJ.ids]using ha
   split at h1
   ·rename_i c hs
    cases hfr:c.free with
    |false=>rw[hfr]at h1;cases h1
    |true=>
    rw[hfr]at h1
    obtain⟨c',g1,g2⟩:=Option.map_eq_some_iff.1 h1
    injection g2 with e1 e2;subst e1 e2
    have hz:(o+len)*es=c.size:=by simpa [dI]using ho _ (List.mem_singleton.2 rfl)
    obtain⟨s1,s2⟩:=pT (len:=o+len) g1 hz (by simp) (by simp)
    simp only[Option.getD_none,Option.getD_some]at s1 s2
    have s1':c'.size=len*es:=by rw[s1];congr 1;omega
    rcases d7 m (hg _ _ hs) hx with⟨b,k,ty,n,hb',rfl,⟨cs,ty',hrow,hsz,hcs⟩,hsh,hn,hl,hcap⟩|⟨a,rfl,rfl,hcap⟩
    ·have hin: ∀q,q<c'.size→o*es+q<c.size:=fun q hq=>by
      rw[s1']at hq;rw[←hz,Nat.add_mul];omega
     refine .view none c' len es cap b (o*es) k (fun q=>cs.getD (o*es+q) undef) (fun _=>notL hid hb') (fun q hq=> ?_) (fun q hq=> ?_) s1'.symm hl hcap (fun _ h=>by cases h)
     ·have hq':o*es+q<cs.size:=by have:=hin q hq;omega
      simp[World.cell?,hrow,Array.getD,hq']
     ·rw[s2 q hq]
      exact((hcs _ (hin q hq)).free (eT hfr _)).mono mb (cF.noIds _)
    ·exact .viewNone none c' es cap a 0 (by rw[s1',Nat.zero_mul]) hcap (fun _ h=>by cases h) (fun _=>rfl)
   ·cases h1
  ·rename_i id i es j
   have hid:roots.elem id=false:=by simpa [aJ.ids]using ha
   split at h1
   ·rename_i c hs
    cases hfr:c.free with
    |false=>rw[hfr]at h1;cases h1
    |true=>
    rw[hfr]at h1
    injection h1 with h1;injection h1 with e1 e2;subst e1 e2
    obtain⟨b,hb',rfl,cs,ty,hrow,hsz,hcs⟩:=hE m (hg _ _ hs) hx
    have:=CR0.vptr (w:=w) (L:=fun b=>bL ρ0 b∨Y b) (ρ:=ρ0) c i es j b 0 (fun q=>cs.getD q undef) (fun _=>notL hid hb') (fun q hq=>by
      have hq':q<cs.size:=by omega
      simp[World.cell?,hrow,Array.getD,hq']) (fun q hq=>((hcs q hq).free (eT hfr q)).mono mb (cF.noIds _))
    simpa using this
   ·cases h1
  ·cases h1
end
section
section
variable {X Y : Nat → Prop} {w0 w : World} {M : Nat → Prop} {h : List b9} {ρ ρ0 : Rho} (m : Mem X w0 M h ρ w) {get : Get} (hg : ∀ id c, get id = .live c → Heap.get h id = .live c) {roots : List Nat}
 (hr:kW roots ρ ρ0) (hb: ∀(k b:Nat),ρ0 k=.row b→ ∃id:Nat,roots[k]? =some id∧ρ id=.row b) (hL: ∀b,(bL ρ0 b∨Y b)→(bL ρ b∨X b))
include m hg hr hb hL
theorem vK: ∀ {l l':List aJ} {o:List Bool} {vd:Bool} (f:Nat→Value),cvL get roots l=some (l',o,vd)→(∀b∈o,b=true)→(vd=true→ ∀b, ¬Y b)→
  (∀q,q<l.length→CR X w ρ (l.getD q .any) (f q))→l'.length=l.length∧ ∀q,q<l.length→CR Y w ρ0 (l'.getD q .any) (f q)
 |[],l',o,vd,f,hc,_,_,_=>by
  injection hc with hc;injection hc with h1 h2;subst h1
  exact⟨rfl,fun q hq=>by simp at hq⟩
 |x::r,l',o,vd,f,hc,ho,hv,hx=>by
  simp only[cvL]at hc
  split at hc
  ·rename_i y o1 b ys o2 b' e1 e2
   injection hc with hc;injection hc with h1 h2;injection h2 with h2 h3;subst h1 h2 h3
   obtain⟨g1,g2⟩:=vK (fun q=>f (q+1)) e2 (fun b hb=>ho b (List.mem_append_right _ hb)) (fun h=>hv (by simp[h])) (fun q hq=>by simpa using hx (q+1) (by simpa using hq))
   refine⟨by simp[g1],fun q hq=> ?_⟩
   cases q with
   |zero=>simpa using vJ m hg hr hb e1 (fun b hb=>ho b (List.mem_append_left _ hb)) hL (fun h=>hv (by simp[h])) (by simpa using hx 0 (by simp))
   |succ q=>simpa using g2 q (by simpa using hq)
  ·cases hc
theorem EW {x y:AV} {o:List Bool} {vd:Bool} {v:Value} (hc:cvA get roots x=some (y,o,vd)) (ho: ∀b∈o,b=true) (hv:vd=true→ ∀b, ¬Y b) (hx:AVR X w ρ x v):AVR Y w ρ0 y v:=by
 cases hx with
 |any v=>injection hc with hc;injection hc with h1 h2;subst h1;exact .any v
 |c x v hx=>
  obtain⟨⟨y',o',b⟩,h1,h2⟩:=Option.map_eq_some_iff.1 hc
  injection h2 with h2 h3;injection h3 with h3 h4;subst h2 h3 h4
  exact .c _ _ (vJ m hg hr hb h1 ho hL hv hx)
 |agg cs vs hs hx=>
  obtain⟨⟨y',o',b⟩,h1,h2⟩:=Option.map_eq_some_iff.1 hc
  injection h2 with h2 h3;injection h3 with h3 h4;subst h2 h3 h4
  obtain⟨g1,g2⟩:=vK m hg hr hb hL (fun q=>vs.getD q undef) h1 ho hv hx
  exact .agg _ _ (by rw[g1,hs]) fun i hi=>g2 i (by rw[←g1];exact hi)
 |tup l vs hs hx=>cases hc
theorem qD: ∀ {l l':List AV} {o:List Bool} {vd:Bool} (f:Nat→Value),DV get roots l=some (l',o,vd)→(∀b∈o,b=true)→(vd=true→ ∀b, ¬Y b)→
  (∀q,q<l.length→AVR X w ρ (l.getD q .any) (f q))→l'.length=l.length∧ ∀q,q<l.length→AVR Y w ρ0 (l'.getD q .any) (f q)
 |[],l',o,vd,f,hc,_,_,_=>by
  injection hc with hc;injection hc with h1 h2;subst h1
  exact⟨rfl,fun q hq=>by simp at hq⟩
 |x::r,l',o,vd,f,hc,ho,hv,hx=>by
  simp only[DV]at hc
  split at hc
  ·rename_i y o1 b ys o2 b' e1 e2
   injection hc with hc;injection hc with h1 h2;injection h2 with h2 h3;subst h1 h2 h3
   obtain⟨g1,g2⟩:=qD (fun q=>f (q+1)) e2 (fun b hb=>ho b (List.mem_append_right _ hb)) (fun h=>hv (by simp[h])) (fun q hq=>by simpa using hx (q+1) (by simpa using hq))
   refine⟨by simp[g1],fun q hq=> ?_⟩
   cases q with
   |zero=>simpa using EW m hg hr hb hL e1 (fun b hb=>ho b (List.mem_append_left _ hb)) (fun h=>hv (by simp[h])) (by simpa using hx 0 (by simp))
   |succ q=>simpa using g2 q (by simpa using hq)
  ·cases hc
end
theorem DJ {p:b9→Bool} (hp:p .unborn=true) {h:List b9} (ha:h.all p=true) (k:Nat):p (Heap.get h k)=true:=by
 rcases Nat.lt_or_ge k h.length with hk|hk
 ·have:Heap.get h k=h[k]:=by simp[Heap.get,hk]
  rw[this];exact List.all_eq_true.1 ha _ (List.getElem_mem hk)
 ·rw[Heap.get_ge hk];exact hp
theorem zA {P:Program} {f:FuncId} {F:aQ} (hF:aS P f F)
  {roots:List Nat} {args:List AV} {get:Get} {base:Nat} {e:Eff} (he:HQ F roots args get base=some e) (ho: ∀b∈e.obl,b=true):vA P f args get base e:=by
 unfold HQ at he
 cases hc:cT roots&&roots.all (CS get)with
 |false=>rw[hc]at he;cases he
 |true=>
 rw[hc]at he
 simp only[cond_true]at he
 simp only[Bool.and_eq_true,List.all_eq_true]at hc
 obtain⟨hnd,hok⟩:=hc
 split at he
 ·cases he
 rename_i cargs o vd hcv
 split at he
 ·cases he
 rename_i res h1 o' hmod
 cases hc:Nat.ble roots.length h1.length&&Nat.ble h1.length (roots.length+8)&&(!vd||(res.vfree&&h1.all b9.vfree))&&h1.all b9.plain with
 |false=>rw[hc]at he;cases he
 |true=>
 rw[hc]at he
 simp only[cond_true,Option.some.injEq]at he
 subst he
 simp only[Bool.and_eq_true,Nat.ble_eq]at hc
 obtain⟨⟨⟨hml,hmh⟩,hvf⟩,hplain⟩:=hc
 refine⟨(hF _ _ _ _ _ hmod (fun b hb=>ho b (List.mem_append_right _ hb))).1, ?_⟩
 intro X w0 w M h ρ mm hg hbase vs hvl hva
 dsimp only at ho
 have hlive: ∀(k id:Nat),roots[k]? =some id→ ∃c,get id=.live c∧Heap.get h id=.live c∧ ∀e n g,c≠ .recs e n g:=by
  intro k id hk
  have:=hok id (List.mem_of_getElem? hk)
  simp only[CS,Bool.and_eq_true,i4]at this
  cases hgi:get id with
  |live c=>rw[hgi]at this;exact⟨c,rfl,hg _ _ hgi,fun e n g hc=>by subst hc;simp[b9.plain]at this⟩
  |unborn=>rw[hgi]at this;simp at this
  |dead=>rw[hgi]at this;simp at this
 have hρ0: ∀(k id:Nat),roots[k]? =some id→c6 h roots ρ k=ρ id:=by
  intro k id hk
  obtain⟨c,_,h2,h3⟩:=hlive k id hk
  unfold c6;rw[hk];dsimp only;rw[h2]
  cases c with
  |recs e n g=>exact absurd rfl (h3 e n g)
  |_=>rfl
 have hρ0n: ∀(k:Nat),roots[k]? =none→c6 h roots ρ k=.unborn:=by
  intro k hk;unfold c6;rw[hk]
 generalize hr0:c6 h roots ρ=ρ0 at*
 have hren:kW roots ρ ρ0:=by rw[←hr0];exact dN _ _ _
 have hrow: ∀(k b:Nat),ρ0 k=.row b→ ∃id:Nat,roots[k]? =some id∧ρ id=.row b:=fun k b hk=>by rw[←hr0]at hk;exact hP hk
 have hlv0: ∀b,bL ρ0 b→bL ρ b:=fun b ⟨k,hk⟩=>by obtain⟨id,_,h2⟩:=hrow k b hk;exact⟨id,h2⟩
 let Y:Nat→Prop:=fun b=>vd=false∧(bL ρ b∨X b)∧ ¬bL ρ0 b
 have hL: ∀b,(bL ρ0 b∨Y b)→(bL ρ b∨X b):=fun b hb=>hb.elim (fun h'=> .inl (hlv0 b h')) (fun h'=>h'.2.1)
 have hmap:(roots.map fun id=>(get id).ren roots)=roots.map fun id=>(Heap.get h id).ren roots:=by
  apply List.map_congr_left
  intro id hid
  obtain⟨k,hk⟩:=List.getElem?_of_mem hid
  obtain⟨c,c1,c2,_⟩:=hlive k id hk
  rw[c1,c2]
 rw[hmap]at hmod
 have m0:Mem Y w (bL ρ0) (roots.map fun id=>(Heap.get h id).ren roots) ρ0 w:=by
  refine⟨fun k=> ?_,fun i j b hi hj=> ?_,fun k b hk=> .inr ⟨k,hk⟩,rfl,rfl,rfl,Nat.le_refl _,fun _ _ _=>rfl,fun b hb=>⟨?_,hb.2.2⟩⟩
  ·have:=mm.slot_ren (l:=roots) (Y:=Y) (fun b hb=>hb.2.1) k
   rw[hr0]at this;exact this
  ·have:=(mm.ren hnd).inj
   rw[hr0]at this;exact this i j b hi hj
  ·rcases hb.2.1 with⟨id,h'⟩|h'
   ·exact mm.lt h'
   ·have:=(mm.foreign b h').1;have:=mm.size;omega
 obtain⟨hcl,hca⟩:=qD mm hg hren hrow hL (fun q=>vs.getD q undef) hcv (fun b hb=>ho b (List.mem_append_left _ hb)) (fun hv b hb=>by rw[hb.1]at hv;cases hv) hva
 have hcall:=(hF _ _ _ _ _ hmod (fun b hb=>ho b (List.mem_append_right _ hb))).2 m0 vs (by rw[hcl,hvl]) (fun q hq=>hca q (by rw[←hcl];exact hq))
 refine Calls.mono hcall ?_
 rintro e' w' ⟨v,ρ1,rfl,mb,im,m1,hv⟩
 have hunb: ∀i,i<8→ρ (base+i)=.unborn:=by
  intro i hi
  have hs:=mm.slot (base+i);rw[(hbase i hi).1]at hs
  cases hx:ρ (base+i)<;>rw[hx]at hs<;>first|rfl|exact hs.elim
 have htl:(roots++cN 8 base).length=roots.length+8:=by simp[tO]
 have htg1: ∀(k id:Nat),roots[k]? =some id→(roots++cN 8 base)[k]? =some id:=by
  intro k id hk
  rw[List.getElem?_append_left (List.getElem?_eq_some_iff.1 hk).1];exact hk
 have htg: ∀(k id:Nat),(roots++cN 8 base)[k]? =some id→roots[k]? =some id∨(roots.length≤k∧ ∃i,i<8∧id=base+i∧k=roots.length+i):=by
  intro k id hk
  rw[List.getElem?_append]at hk
  split at hk
  ·exact .inl hk
  ·rename_i hge
   rw[tN]at hk
   split at hk
   ·rename_i hi
    injection hk with hk
    exact .inr ⟨by omega,_,hi,hk.symm,by omega⟩
   ·cases hk
 have hnt:cT (roots++cN 8 base)=true:=by
  refine JI fun i j x hi hj=> ?_
  have no: ∀(k i':Nat),i'<8→roots[k]? =some (base+i')→False:=fun k i' hi' hk=>by
   obtain⟨c,_,c2,_⟩:=hlive k _ hk
   rw[(hbase i' hi').1]at c2;cases c2
  rcases htg i x hi with hi'|⟨_,i',i1,i2,i3⟩<;>rcases htg j x hj with hj'|⟨_,j',j1,j2,j3⟩
  ·exact lB hnd hi' hj'
  ·subst j2;exact(no i j' j1 hi').elim
  ·subst i2;exact(no j i' i1 hj').elim
  ·omega
 generalize htdef:roots++cN 8 base=T at*
 have hidx: ∀(k id:Nat),T[k]? =some id↔idx? T id=some k:=fun k id=>⟨fun h=>idx?_some hnt h,idx?_spec⟩
 let ρ':Rho:=fun id=>match idx? T id with
  |some k=>ρ1 k
  |none=>ρ id
 have hin: ∀(k id:Nat),T[k]? =some id→ρ' id=ρ1 k:=fun k id hk=>by
  show(match idx? T id with|some k=>ρ1 k|none=>ρ id)=ρ1 k
  rw[(hidx k id).1 hk]
 have hout: ∀id,idx? T id=none→ρ' id=ρ id:=fun id hk=>by
  show(match idx? T id with|some k=>ρ1 k|none=>ρ id)=ρ id
  rw[hk]
 have hk1: ∀k,ρ1 k≠ .unborn→k<h1.length:=by
  intro k hk
  rcases Nat.lt_or_ge k h1.length with h'|h'
  ·exact h'
  ·have hs:=m1.slot k;rw[Heap.get_ge h']at hs
   cases hx:ρ1 k<;>rw[hx]at hs<;>first|exact absurd hx hk|exact hs.elim
 have hbacks:DB T ρ1 ρ':=by
  intro k hk
  have hlt:=hk1 k hk
  have hkT:k<T.length:=by omega
  have:T[k]? =some (T.getD k 0):=by simp[List.getD_eq_getElem?_getD,List.getElem?_eq_getElem hkT]
  exact hin k _ this
 have hnot0: ∀id b,idx? T id=none→ρ id=.row b→ ¬bL ρ0 b:=by
  rintro id b hid hb ⟨k,hk⟩
  obtain⟨j,j1,j2⟩:=hrow k b hk
  have:=mm.inj id j b hb j2
  subst this
  rw[(hidx k id).1 (htg1 k id j1)]at hid;cases hid
 have hown1: ∀k b,ρ1 k=.row b→w.heap.size≤b∨bL ρ b:=fun k b hk=>(m1.own k b hk).imp id (hlv0 b)
 have hmono:bT w ρ w' ρ':=by
  refine⟨fun b hb hl=>m1.keep b hb (fun h'=>hl (hlv0 b h')),mb.shape,mb.size,fun id hd=> ?_,fun id hd=> ?_,fun id b hd=> ?_,fun id b hd=> ?_⟩
  ·cases hi:idx? T id with
   |none=>rw[hout id hi];exact hd
   |some k=>
    have hk:=idx?_spec hi
    rw[hin k id hk]
    rcases htg k id hk with h'|⟨_,i,i1,i2,_⟩
    ·exact im.dead k (by rw[hρ0 k id h'];exact hd)
    ·subst i2;rw[hunb i i1]at hd;cases hd
  ·cases hi:idx? T id with
   |none=>rw[hout id hi];exact .inl hd
   |some k=>
    have hk:=idx?_spec hi
    rw[hin k id hk]
    rcases htg k id hk with h'|⟨_,i,i1,i2,_⟩
    ·exact im.nil k (by rw[hρ0 k id h'];exact hd)
    ·subst i2;rw[hunb i i1]at hd;cases hd
  ·cases hi:idx? T id with
   |none=>rw[hout id hi];exact .inl hd
   |some k=>
    have hk:=idx?_spec hi
    rw[hin k id hk]
    rcases htg k id hk with h'|⟨_,i,i1,i2,_⟩
    ·exact im.at_ k b (by rw[hρ0 k id h'];exact hd)
    ·subst i2;rw[hunb i i1]at hd;cases hd
  ·cases hi:idx? T id with
   |none=>rw[hout id hi]at hd;exact .inl ⟨id,hd⟩
   |some k=>
    rw[hin k id (idx?_spec hi)]at hd
    exact(hown1 k b hd).symm
 have hLb:(∀b,(bL ρ' b∨X b)→(bL ρ1 b∨Y b))∨(res.vfree=true∧h1.all b9.vfree=true):=by
  cases hvd:vd with
  |true=>
   rw[hvd]at hvf
   simp only[Bool.not_true,Bool.false_or,Bool.and_eq_true]at hvf
   exact .inr hvf
  |false=>
   refine .inl fun b hb=> ?_
   rcases hb with⟨id,hid⟩|hx
   ·cases hi:idx? T id with
    |some k=>rw[hin k id (idx?_spec hi)]at hid;exact .inl ⟨k,hid⟩
    |none=>
     rw[hout id hi]at hid
     exact .inr ⟨hvd,.inl ⟨id,hid⟩,hnot0 id b hi hid⟩
   ·refine .inr ⟨hvd,.inr hx,fun⟨k,hk⟩=> ?_⟩
    obtain⟨j,_,j2⟩:=hrow k b hk
    exact mm.notX j2 hx
 refine⟨v,ρ',rfl,hmono,⟨fun id=> ?_,fun i j b hi hj=> ?_,fun id b hd=> ?_,by rw[m1.os,mm.os],by rw[m1.tape,mm.tape],by rw[m1.output,mm.output],Nat.le_trans mm.size m1.size,
  fun k hk hM=> ?_,mm.foreign⟩,AVR.back hbacks hv (hLb.imp id And.left)⟩
 ·have hltT: ∀x∈T,x<h.length:=by
   intro x hx
   obtain⟨k,hk⟩:=List.getElem?_of_mem hx
   rcases htg k x hk with h'|⟨_,i,i1,i2,_⟩
   ·obtain⟨c,_,c2,_⟩:=hlive k x h'
    exact Heap.lt_of_live (by rw[c2];simp)
   ·subst i2;exact(hbase i i1).2
  rw[AH T T h1 h id hnt hltT]
  cases hi:idx? T id with
  |none=>
   rw[hout id hi]
   exact(mm.slot id).mono hmono fun b hb=>m1.keep b (mm.lt hb) (hnot0 id b hi hb)
  |some k=>
   have hk:=idx?_spec hi
   rw[hin k id hk]
   have hback:=dW.back hbacks (Y:=X) (DJ rfl hplain k) (m1.slot k) (hLb.imp (fun x=>x) fun h'=>DJ rfl h'.2 k)
   dsimp only
   split
   ·exact hback
   ·rename_i hge
    have hge:h1.length≤k:=by omega
    rw[Heap.get_ge hge]at hback
    have:Heap.get h id=.unborn:=by
     rcases htg k id hk with h'|⟨_,i,i1,i2,_⟩
     ·have:=(List.getElem?_eq_some_iff.1 h').1;omega
     ·subst i2;exact(hbase i i1).1
    rw[this];exact hback
 ·cases hi1:idx? T i with
  |some k=>
   rw[hin k i (idx?_spec hi1)]at hi
   cases hj1:idx? T j with
   |some k'=>
    rw[hin k' j (idx?_spec hj1)]at hj
    have:=m1.inj k k' b hi hj
    subst this
    have a1:=idx?_spec hi1;have a2:=idx?_spec hj1
    rw[a1]at a2;injection a2
   |none=>
    rw[hout j hj1]at hj
    rcases m1.own k b hi with h'|h'
    ·have:=mm.lt hj;omega
    ·exact absurd h' (hnot0 j b hj1 hj)
  |none=>
   rw[hout i hi1]at hi
   cases hj1:idx? T j with
   |some k'=>
    rw[hin k' j (idx?_spec hj1)]at hj
    rcases m1.own k' b hj with h'|h'
    ·have:=mm.lt hi;omega
    ·exact absurd h' (hnot0 i b hi1 hi)
   |none=>rw[hout j hj1]at hj;exact mm.inj i j b hi hj
 ·cases hi:idx? T id with
  |none=>rw[hout id hi]at hd;exact mm.own id b hd
  |some k=>
   rw[hin k id (idx?_spec hi)]at hd
   rcases hown1 k b hd with h'|⟨j,hj⟩
   ·have:=mm.size;exact .inl (by omega)
   ·exact mm.own j b hj
 ·rw[m1.keep k (by have:=mm.size;omega) (fun h'=> ?_),mm.keep k hk hM]
  obtain⟨j,hj⟩:=hlv0 k h'
  rcases mm.own j k hj with h''|h''
  ·omega
  ·exact hM h''
end
section
structure bF where
 f:Nat
 pos:List Nat
 F:aQ
def NR (pos:List Nat) (args:List AV) (get:Get):List Nat:=
 let l:=jU [] (pos.flatMap fun p=>(args.getD p .any).ids)
 jU l (l.flatMap fun id=>rS (get id))
def aB:List bF→CT
 |[]=>fun _ _ _ _=>none
 |e::r=>fun f args get base=>if f=e.f then HQ e.F (NR e.pos args get) args get base else aB r f args get base
def a8 (P:Program) (l:List bF):Prop:= ∀e∈l,aS P e.f e.F
theorem a8.nil (P:Program):a8 P []:=fun e h=>by cases h
theorem a8.cons {P:Program} {e:bF} {l:List bF} (h:aS P e.f e.F) (r:a8 P l):a8 P (e::l):=by
 intro x hx
 rcases List.mem_cons.1 hx with rfl|hx
 ·exact h
 ·exact r x hx
theorem a8.append {P:Program} {a b:List bF} (h:a8 P a) (r:a8 P b):a8 P (a++b):=by
 intro x hx
 rcases List.mem_append.1 hx with hx|hx
 ·exact h x hx
 ·exact r x hx
theorem aP {P:Program}: ∀ {l:List bF},a8 P l→bN P (aB l)
 |[],_=>fun f args get base e h=>by simp[aB]at h
 |x::l,hl=>fun f args get base e h ho=>by
  simp only[aB]at h
  split at h
  ·rename_i e;subst e
   exact zA (hl x List.mem_cons_self) h ho
  ·exact aP (fun y hy=>hl y (List.mem_cons_of_mem _ hy)) f args get base e h ho
def WK (P:Program) (f:FuncId):Prop:= ∃fn,P.funcs[f]? =some fn∧fn.body.isSome=true∧(fn.name== "runtime.NumGoroutine")=false
def aJ.lenOk:aJ→Prop
 |.view _ c len es _=>len*es=c.size
 |_=>True
def AV.lenOk:AV→Prop
 |.c x=>x.lenOk
 |.agg cs=> ∀x∈cs,x.lenOk
 |_=>True
theorem CR0.lenOk {w:World} {L:Nat→Prop} {ρ:Rho} {c:aJ} {v:Value} (h:CR0 w L ρ c v):c.lenOk:=by
 cases h<;>first|trivial|assumption|skip
 rename_i hz _ _ _;simp[aJ.lenOk,hz]
theorem AVR.lenOk {X:Nat→Prop} {w:World} {ρ:Rho} {x:AV} {v:Value} (h:AVR X w ρ x v):x.lenOk:=by
 cases h with
 |any=>trivial
 |c x v h=>exact CR0.lenOk h
 |agg cs vs hs h=>
  intro x hx
  obtain⟨i,hi⟩:=List.getElem?_of_mem hx
  have hlt:=(List.getElem?_eq_some_iff.1 hi).1
  have:=CR0.lenOk (h i hlt)
  rw[List.getD_eq_getElem?_getD,hi]at this
  exact this
 |tup=>trivial
theorem bE.len {P:Program} {f:FuncId} {args:List AV} {h:List b9} {res:AV} {h':List b9} (hex:WK P f) (hm:(∀x∈args,x.lenOk)→bE P f args h res h'):bE P f args h res h':=by
 refine⟨hex,fun {X w0 ρ0} m vs hl hv=> ?_⟩
 refine(hm fun x hx=> ?_).2 m vs hl hv
 obtain⟨i,hi⟩:=List.getElem?_of_mem hx
 have hlt:=(List.getElem?_eq_some_iff.1 hi).1
 have:=(hv i hlt).lenOk
 rw[List.getD_eq_getElem?_getD,hi]at this
 exact this
end
section
def M4 (x:Nat):List Nat→List Nat
 |[]=>[x]
 |y::r=>bif Nat.blt x y then x::y::r else bif x==y then y::r else y::M4 x r
def uni:List Nat→List Nat→List Nat
 |[],b=>b
 |x::r,b=>M4 x (uni r b)
def del (x:Nat) (l:List Nat):List Nat:=l.filter fun y=> !(x==y)
def PA:Operand→List Nat
 |.tmp t=>[t]
 |_=>[]
def a14 (ops:Array Oper) (o:Oper):List Nat:=
 (cQ o).flatMap PA++(match o.guard with
  |some (j,_)=>match(ops[j]?).bind (·.dst)with|some d=>[d]|none=>[]
  |none=>[])
def P4 (ops:Array Oper):List Oper→List Nat→List Nat
 |[],out=>out
 |o::r,out=>
  let l:=P4 ops r out
  let l:=match o.dst with
   |some d=>del d l
   |none=>l
  uni (a14 ops o) l
def exL (ex:List (Nat×List Nat)) (id:Nat):List Nat:=
 match ex with
 |[]=>[]
 |(k,l)::r=>bif k==id then l else exL r id
def lv:Code→List Nat→List (Nat×List Nat)→List Nat→List Nat
 |.ret,_,_,ret=>ret
 |.exit id,_,ex,_=>exL ex id
 |.region _ ops _,out,_,_=>P4 ops ops.toList out
 |.seq a b,out,ex,ret=>lv a (lv b out ex ret) ex ret
 |.cond x a b,out,ex,ret=>uni (PA x) (uni (lv a out ex ret) (lv b out ex ret))
 |.block id c,out,ex,ret=>lv c out ((id,out)::ex) ret
 |.loop c,out,ex,ret=>lv c [] ex ret
 |_,out,_,_=>out
def sU:Code→List Nat
 |.exit id=>[id]
 |.seq a b=>sU a++sU b
 |.cond _ a b=>sU a++sU b
 |.block _ c=>sU c
 |.loop c=>sU c
 |_=>[]
def jK:Code→Bool
 |.ret=>true
 |.seq a b=>jK a||jK b
 |.cond _ a b=>jK a||jK b
 |.block _ c=>jK c
 |.loop c=>jK c
 |_=>false
def lvB (id:Nat):Code→List Nat→List (Nat×List Nat)→List Nat→Option (List Nat×List Nat)
 |.seq a b,out,ex,ret=>match lvB id a (lv b out ex ret) ex ret with
  |some r=>some r
  |none=>lvB id b out ex ret
 |.cond _ a b,out,ex,ret=>match lvB id a out ex ret with
  |some r=>some r
  |none=>lvB id b out ex ret
 |.block k c,out,ex,ret=>bif k==id then some (lv c out ((k,out)::ex) ret,uni out (uni (bif jK c then ret else []) ((sU c).foldl (fun l k=>uni (exL ex k) l) [])))else lvB id c out ((k,out)::ex) ret
 |.loop c,out,ex,ret=>lvB id c (lv c [] ex ret) ex ret
 |_,_,_,_=>none
def FM:List ResultVar→List Nat
 |[]=>[]
 |.tmp t::r=>M4 t (FM r)
 |.cell a _::r=>M4 a (FM r)
def a7 (fn:Func):Code:=match fn.body with|some c=>c|none=> .skip
def aA (fn:Func) (id:Nat):List Nat:=match lvB id (a7 fn) (FM fn.results.toList) [] (FM fn.results.toList)with|some r=>r.1|none=>[]
def aD (fn:Func) (id:Nat):List Nat:=match lvB id (a7 fn) (FM fn.results.toList) [] (FM fn.results.toList)with|some r=>r.2|none=>[]
def JS:List (Nat×AV)→List AV→List AV
 |[],l=>l
 |(t,v)::r,l=>JS r (l.set t v)
def bA (n:Nat) (l:List (Nat×AV)) (heap:List b9):St:= {tmps:=JS l (List.replicate n .any),heap}
end
section
def nO:Ex→Bool
 |.normal=>true
 |_=>false
def aH (m:Nat) (live liveX:List Nat) (r:Option Out):Option (Ex×Bool×List Prop×St):=
 r.map fun o=>(o.ex,HI o.obl,o.eqs,fit m (bif nO o.ex then live else liveX) o.st)
section
variable {P : Program} {tt : Tab} (hT : jA P tt) {ct : CT} (hct : bN P ct) (bM : P.follows .mixedOrders = true)
include hT hct bM
theorem aW.roundsR {m id:Nat} {body:Code} {α:Type} (Inv:α→Prop) (I:α→St) (μ:α→Nat) (live liveX:List Nat) (ex:α→Ex) (post:α→St) (lc:α→List (Nat×LC))
  (hlc: ∀x,Inv x→aF P m (lc x) body)
  (h: ∀x,Inv x→ ∃n p e b q s,aH m live liveX (aK tt ct (lc x) m n body (I x) p)=some (e,b,q,s)∧b=true∧(∀x∈q,x)∧
   ((e=.normal∧ ∃y,Inv y∧μ y<μ x∧s=I y∧ex y=ex x∧post y=post x)∨(e=.exit id∧ex x=.normal∧s=post x)∨(e≠ .normal∧e≠ .exit id∧ex x=e∧s=post x))):
  ∀x,Inv x→aW P m (.block id (.loop body)) (I x) fun e t=>e=ex x∧t=post x:=by
 refine aW.rounds hT hct bM Inv I μ live liveX ex post lc hlc fun x hx=> ?_
 obtain⟨n,p,e,b,q,s,hr,hb,hq,hc⟩:=h x hx
 obtain⟨o,ho,h1⟩:=Option.map_eq_some_iff.1 hr
 simp only[Prod.mk.injEq]at h1
 obtain⟨rfl,rfl,rfl,rfl⟩:=h1
 refine⟨n,p,o,ho,kX hb,hq, ?_⟩
 rcases hc with⟨h1,y,hy,hm,hs,e1,e2⟩|⟨h1,h2,h3⟩|⟨h1,h2,h3,h4⟩
 ·rw[h1]at hs
  exact .inl ⟨h1,y,hy,hm,hs,e1,e2⟩
 ·rw[h1]at h3
  exact .inr (.inl ⟨h1,h2,h3⟩)
 ·refine .inr (.inr ⟨h1,h2,h3, ?_⟩)
  have:nO o.ex=false:=by cases hx:o.ex<;>first|rfl|exact absurd hx h1
  rw[this]at h4;exact h4
theorem aW.roundsN {m id:Nat} {body:Code} {α:Type} (Inv:α→Prop) (I:α→St) (μ:α→Nat) (live liveX:List Nat) (post:α→St) (lc:α→List (Nat×LC))
  (hlc: ∀x,Inv x→aF P m (lc x) body)
  (h: ∀x,Inv x→ ∃n p e b q s,aH m live liveX (aK tt ct (lc x) m n body (I x) p)=some (e,b,q,s)∧b=true∧(∀x∈q,x)∧
   ((e=.normal∧ ∃y,Inv y∧μ y<μ x∧s=I y∧post y=post x)∨(e=.exit id∧s=post x))):
  ∀x,Inv x→aW P m (.block id (.loop body)) (I x) fun e t=>e=.normal∧t=post x:=by
 refine aW.roundsR hT hct bM Inv I μ live liveX (fun _=> .normal) post lc hlc fun x hx=> ?_
 obtain⟨n,p,e,b,q,s,hr,hb,hq,hc⟩:=h x hx
 refine⟨n,p,e,b,q,s,hr,hb,hq, ?_⟩
 rcases hc with⟨h1,y,hy,hm,hs,e2⟩|⟨h1,h3⟩
 ·exact .inl ⟨h1,y,hy,hm,hs,rfl,e2⟩
 ·exact .inr (.inl ⟨h1,rfl,h3⟩)
end
end
section
theorem bE.view {P:Program} {f:FuncId} {args:List AV} {len es:Nat} {cap:Option Nat} {c:Con} (hm:bE P f args [] (.c (.sl 0 0 len es cap)) [.live c]) (hf:c.free=true) (hz:len*es=c.size):
  bE P f args [] (.c (.view none c len es cap)) []:=by
 refine⟨hm.1,fun {X w0 ρ0} m vs hl hv=> ?_⟩
 refine Calls.mono (hm.2 m vs hl hv) ?_
 rintro e w' ⟨v,ρ',rfl,mb,im,m',hr⟩
 have hun: ∀id,ρ0 id=.unborn:=fun id=>by
  have hs:=m.slot id
  rw[Heap.get_ge (by simp)]at hs
  cases hx:ρ0 id<;>rw[hx]at hs<;>first|rfl|exact hs.elim
 have hnl: ∀b, ¬bL ρ0 b:=fun b ⟨id,h⟩=>by rw[hun id]at h;cases h
 have mb2:eH w' (fun b=>bL ρ' b∨X b) w' (fun b=>bL ρ0 b∨X b):=⟨fun _ _ _=>rfl,fun _ _=>rfl,Nat.le_refl _,fun b hb=> .inl (hb.elim (fun h=>absurd h (hnl b)) .inr)⟩
 refine⟨v,ρ0,rfl,⟨mb.keep,mb.shape,mb.size,fun b hb=> .inl hb⟩,cF.refl _,⟨fun id=> ?_,(fun i j b hi _=>absurd (hun i) (by rw[hi];simp)),(fun id b hb=>absurd (hun id) (by rw[hb];simp)),m'.os,m'.tape,m'.output,m'.size,m'.keep,m'.foreign⟩, ?_⟩
 ·rw[Heap.get_ge (by simp),hun id];trivial
 ·have hs:Heap.get [b9.live c] 0=.live c:=rfl
  refine .c _ _ ?_
  rcases d7 m' hs (cP hr)with⟨b,k,ty,n,hb,rfl,⟨cs,ty',hrow,hsz,hcs⟩,hsh,hn,hl',hcap⟩|⟨a,rfl,rfl,hcap⟩
  ·rw[Nat.zero_mul]
   refine .view none c len es cap b 0 k (fun q=>cs.getD q undef) (fun _ h=> ?_) (fun q hq=> ?_) (fun q hq=>((hcs q hq).free (eT hf q)).mono mb2 (cF.noIds _)) hz hl' hcap (fun _ h=>by cases h)
   ·rcases h with h|h
    ·exact hnl b h
    ·exact m'.notX hb h
   ·have hq':q<cs.size:=by omega
    simp[World.cell?,hrow,Array.getD,hq']
  ·exact .viewNone none c es cap a 0 (by omega) hcap (fun _ h=>by cases h) (fun _=>rfl)
end
section
def tt:Tab:=[
 none,
 some ⟨1,8,false,[.nilf],.cells,.other⟩,
 some ⟨1,8,false,[.int .i64 0],.ints .i64,.int .i64⟩,
 some ⟨1,8,false,[.int .i64 0],.ints .i64,.int .i64⟩,
 some ⟨1,1,false,[.bool false],.bools,.bool⟩,
 some ⟨1,1,false,[.int .u8 0],.ints .u8,.int .u8⟩,
 some ⟨1,1,false,[.int .u8 0],.ints .u8,.int .u8⟩,
 some ⟨4,24,true,[.int .i64 0,.int .i64 0,.bool false,.int .u8 0],.cells,.struct [(0,2),(1,3),(2,4),(3,6)]⟩,
 some ⟨4,24,true,[.int .i64 0,.int .i64 0,.bool false,.int .u8 0],.cells,.struct [(0,2),(1,3),(2,4),(3,6)]⟩,
 some ⟨1,16,false,[.str ByteArray.empty],.cells,.str⟩,
 some ⟨1,16,false,[.str ByteArray.empty],.cells,.str⟩,
 some ⟨1,16,false,[.str ByteArray.empty],.cells,.str⟩,
 some ⟨1,8,false,[.int .u64 0],.ints .u64,.int .u64⟩,
 some ⟨2,24,true,[.str ByteArray.empty,.int .u64 0],.cells,.struct [(0,9),(1,12)]⟩,
 some ⟨2,24,true,[.str ByteArray.empty,.int .u64 0],.cells,.struct [(0,9),(1,12)]⟩,
 some ⟨1,8,false,[.nilp],.cells,.ptr 224⟩,
 some ⟨1,8,false,[.nilp],.cells,.ptr 227⟩,
 some ⟨1,8,false,[.nilp],.cells,.ptr 235⟩,
 some ⟨1,8,true,[.nilp],.cells,.struct [(0,17)]⟩,
 some ⟨1,8,true,[.nilp],.cells,.struct [(0,17)]⟩,
 none,
 some ⟨1,4,false,[.int .i32 0],.ints .i32,.int .i32⟩,
 some ⟨1,24,false,[.nils],.ivs .u8,.slice 5⟩,
 some ⟨1,24,false,[.nils],.ivs .i64,.slice 3⟩,
 some ⟨1,24,false,[.nils],.cells,.slice 4⟩,
 some ⟨4,80,true,[.int .i64 0,.nils,.nils,.nils],.cells,.struct [(0,3),(1,23),(2,23),(3,24)]⟩,
 some ⟨4,80,true,[.int .i64 0,.nils,.nils,.nils],.cells,.struct [(0,3),(1,23),(2,23),(3,24)]⟩,
 some ⟨8,128,true,[.int .i64 0,.nils,.nils,.nils,.bool false,.int .i64 0,.nils,.int .i64 0],.cells,.struct [(0,26),(4,4),(5,3),(6,23),(7,3)]⟩,
 some ⟨8,128,true,[.int .i64 0,.nils,.nils,.nils,.bool false,.int .i64 0,.nils,.int .i64 0],.cells,.struct [(0,26),(4,4),(5,3),(6,23),(7,3)]⟩,
 none,
 some ⟨1,8,false,[.nilf],.cells,.other⟩,
 some ⟨1,8,false,[.nilf],.cells,.other⟩,
 some ⟨1,8,false,[.nilf],.cells,.other⟩,
 some ⟨1,8,false,[.nilf],.cells,.other⟩,
 none,
 some ⟨1,8,false,[.nilf],.cells,.other⟩,
 some ⟨1,8,false,[.nilf],.cells,.other⟩,
 none,
 some ⟨1,8,false,[.nilf],.cells,.other⟩,
 some ⟨1,8,false,[.nilf],.cells,.other⟩,
 none,
 some ⟨1,8,false,[.nilf],.cells,.other⟩,
 some ⟨1,8,false,[.nilf],.cells,.other⟩,
 none,
 some ⟨1,8,false,[.nilf],.cells,.other⟩,
 some ⟨1,8,false,[.nilf],.cells,.other⟩,
 some ⟨1,8,false,[.nilf],.cells,.other⟩,
 some ⟨1,8,false,[.nilf],.cells,.other⟩,
 some ⟨4,80,true,[.int .i64 0,.nils,.nils,.nils],.cells,.struct [(0,3),(1,23),(2,23),(3,24)]⟩,
 some ⟨8,128,true,[.int .i64 0,.nils,.nils,.nils,.bool false,.int .i64 0,.nils,.int .i64 0],.cells,.struct [(0,48),(4,4),(5,3),(6,23),(7,3)]⟩,
 some ⟨8,128,true,[.int .i64 0,.nils,.nils,.nils,.bool false,.int .i64 0,.nils,.int .i64 0],.cells,.struct [(0,48),(4,4),(5,3),(6,23),(7,3)]⟩,
 some ⟨1,8,false,[.nilf],.cells,.other⟩,
 some ⟨1,8,false,[.nilf],.cells,.other⟩,
 some ⟨1,8,false,[.nilf],.cells,.other⟩,
 some ⟨1,8,false,[.nilf],.cells,.other⟩,
 some ⟨1,24,false,[.nils],.cells,.slice 108⟩,
 none,
 some ⟨1,8,false,[.nilf],.cells,.other⟩,
 none,
 some ⟨1,8,false,[.nilf],.cells,.other⟩,
 some ⟨1,8,false,[.nilf],.cells,.other⟩,
 some ⟨1,8,false,[.nilf],.cells,.other⟩,
 none,
 some ⟨1,8,false,[.nilf],.cells,.other⟩,
 some ⟨1,8,false,[.nilf],.cells,.other⟩,
 some ⟨1,8,false,[.nilf],.cells,.other⟩,
 some ⟨1,8,false,[.nilf],.cells,.other⟩,
 some ⟨1,8,false,[.nilp],.cells,.ptr 111⟩,
 some ⟨1,8,false,[.nilf],.cells,.other⟩,
 some ⟨1,8,false,[.nilf],.cells,.other⟩,
 some ⟨1,8,false,[.nilf],.cells,.other⟩,
 some ⟨1,8,false,[.nilf],.cells,.other⟩,
 some ⟨1,8,false,[.nilf],.cells,.other⟩,
 some ⟨1,8,false,[.nilf],.cells,.other⟩,
 some ⟨1,8,false,[.nilf],.cells,.other⟩,
 some ⟨1,8,false,[.nilf],.cells,.other⟩,
 some ⟨1,8,false,[.nilf],.cells,.other⟩,
 some ⟨1,8,false,[.nilf],.cells,.other⟩,
 some ⟨1,8,false,[.nilf],.cells,.other⟩,
 some ⟨1,8,false,[.nilf],.cells,.other⟩,
 some ⟨1,8,false,[.nilf],.cells,.other⟩,
 some ⟨1,8,false,[.nilf],.cells,.other⟩,
 some ⟨1,8,false,[.nilf],.cells,.other⟩,
 some ⟨1,8,false,[.nilf],.cells,.other⟩,
 some ⟨1,8,false,[.nilf],.cells,.other⟩,
 some ⟨1,8,false,[.nilf],.cells,.other⟩,
 some ⟨1,8,false,[.nilf],.cells,.other⟩,
 some ⟨1,8,false,[.int .i64 0],.ints .i64,.int .i64⟩,
 some ⟨4,32,true,[.int .i64 0,.int .i64 0,.int .i64 0,.int .i64 0],.ints .i64,.arr 4 87⟩,
 some ⟨4,32,true,[.int .i64 0,.int .i64 0,.int .i64 0,.int .i64 0],.ints .i64,.arr 4 87⟩,
 none,
 some ⟨1,8,false,[.nilf],.cells,.other⟩,
 some ⟨1,8,false,[.nilf],.cells,.other⟩,
 some ⟨1,8,false,[.nilf],.cells,.other⟩,
 some ⟨1,8,false,[.nilf],.cells,.other⟩,
 some ⟨1,8,false,[.nilf],.cells,.other⟩,
 some ⟨1,8,false,[.nilf],.cells,.other⟩,
 some ⟨1,8,false,[.nilf],.cells,.other⟩,
 some ⟨1,8,false,[.nilf],.cells,.other⟩,
 some ⟨1,8,false,[.nilf],.cells,.other⟩,
 some ⟨1,8,false,[.nilf],.cells,.other⟩,
 some ⟨1,8,false,[.nilf],.cells,.other⟩,
 some ⟨1,8,false,[.nilf],.cells,.other⟩,
 some ⟨1,8,false,[.nilf],.cells,.other⟩,
 some ⟨1,8,false,[.nilf],.cells,.other⟩,
 some ⟨1,8,false,[.nilf],.cells,.other⟩,
 some ⟨1,8,false,[.nilf],.cells,.other⟩,
 some ⟨3,24,true,[.int .i64 0,.int .i64 0,.int .i64 0],.ints .i64,.struct [(0,3),(1,3),(2,3)]⟩,
 some ⟨3,24,true,[.int .i64 0,.int .i64 0,.int .i64 0],.ints .i64,.struct [(0,3),(1,3),(2,3)]⟩,
 some ⟨1,8,false,[.nilf],.cells,.other⟩,
 some ⟨2,32,true,[.nils,.int .i64 0],.cells,.struct [(0,22),(1,3)]⟩,
 some ⟨2,32,true,[.nils,.int .i64 0],.cells,.struct [(0,22),(1,3)]⟩,
 some ⟨1,8,false,[.nilf],.cells,.other⟩,
 some ⟨1,8,false,[.nilf],.cells,.other⟩,
 some ⟨1,8,false,[.nilf],.cells,.other⟩,
 some ⟨1,8,false,[.nilf],.cells,.other⟩,
 some ⟨1,8,false,[.nilf],.cells,.other⟩,
 some ⟨1,8,false,[.nilf],.cells,.other⟩,
 some ⟨1,8,false,[.nilf],.cells,.other⟩,
 some ⟨1,8,false,[.nilf],.cells,.other⟩,
 some ⟨1,8,false,[.nilf],.cells,.other⟩,
 some ⟨1,8,false,[.nilf],.cells,.other⟩,
 some ⟨3,56,true,[.int .i64 0,.nils,.nils],.cells,.struct [(0,3),(1,23),(2,23)]⟩,
 some ⟨3,56,true,[.int .i64 0,.nils,.nils],.cells,.struct [(0,3),(1,23),(2,23)]⟩,
 none,
 some ⟨1,8,false,[.nilf],.cells,.other⟩,
 some ⟨1,8,false,[.nilf],.cells,.other⟩,
 some ⟨1,8,false,[.nilf],.cells,.other⟩,
 some ⟨1,8,false,[.nilf],.cells,.other⟩,
 some ⟨1,8,false,[.nilf],.cells,.other⟩,
 some ⟨1,8,false,[.int .u64 0],.ints .u64,.int .u64⟩,
 none,
 some ⟨1,8,false,[.nilf],.cells,.other⟩,
 some ⟨1,8,false,[.nilf],.cells,.other⟩,
 some ⟨1,8,false,[.nilf],.cells,.other⟩,
 some ⟨1,8,false,[.nilf],.cells,.other⟩,
 some ⟨1,8,false,[.nilf],.cells,.other⟩,
 some ⟨1,8,false,[.nilf],.cells,.other⟩,
 some ⟨1,8,false,[.nilf],.cells,.other⟩,
 some ⟨1,8,false,[.nilf],.cells,.other⟩,
 some ⟨1,8,false,[.nilf],.cells,.other⟩,
 some ⟨1,8,false,[.nilf],.cells,.other⟩,
 some ⟨1,8,false,[.nilf],.cells,.other⟩,
 some ⟨1,8,false,[.nilf],.cells,.other⟩,
 some ⟨1,8,false,[.nilf],.cells,.other⟩,
 some ⟨1,8,false,[.nilf],.cells,.other⟩,
 some ⟨1,8,false,[.nilf],.cells,.other⟩,
 some ⟨1,8,false,[.nilf],.cells,.other⟩,
 some ⟨1,24,false,[.nils],.cells,.slice 23⟩,
 some ⟨1,8,false,[.nilf],.cells,.other⟩,
 some ⟨1,8,false,[.nilf],.cells,.other⟩,
 some ⟨1,8,false,[.nilf],.cells,.other⟩,
 some ⟨1,8,false,[.nilf],.cells,.other⟩,
 some ⟨1,8,false,[.nilf],.cells,.other⟩,
 some ⟨1,8,false,[.nilf],.cells,.other⟩,
 some ⟨1,8,false,[.nilf],.cells,.other⟩,
 some ⟨1,8,false,[.nilf],.cells,.other⟩,
 some ⟨1,8,false,[.nilf],.cells,.other⟩,
 some ⟨1,8,false,[.nilf],.cells,.other⟩,
 some ⟨1,8,false,[.nilf],.cells,.other⟩,
 some ⟨1,4,false,[.int .u32 0],.ints .u32,.int .u32⟩,
 none,
 some ⟨1,8,false,[.nilf],.cells,.other⟩,
 some ⟨1,8,false,[.int .u64 0],.ints .u64,.int .u64⟩,
 none,
 some ⟨1,8,false,[.nilf],.cells,.other⟩,
 some ⟨1,8,false,[.nilf],.cells,.other⟩,
 some ⟨1,8,false,[.nilf],.cells,.other⟩,
 some ⟨1,8,false,[.nilf],.cells,.other⟩,
 some ⟨1,8,false,[.nilf],.cells,.other⟩,
 some ⟨1,8,false,[.nilf],.cells,.other⟩,
 some ⟨1,8,false,[.nilf],.cells,.other⟩,
 some ⟨1,8,false,[.nilf],.cells,.other⟩,
 some ⟨1,8,false,[.nilf],.cells,.other⟩,
 some ⟨1,24,false,[.nils],.cells,.slice 89⟩,
 some ⟨1,24,false,[.nils],.cells,.slice 89⟩,
 some ⟨1,8,false,[.nilf],.cells,.other⟩,
 some ⟨1,8,false,[.nilp],.cells,.ptr 182⟩,
 some ⟨1,8,false,[.nilf],.cells,.other⟩,
 some ⟨1,24,false,[.nils],.cells,.slice 187⟩,
 some ⟨1,24,false,[.nils],.cells,.slice 185⟩,
 some ⟨2,48,true,[.nils,.nils],.cells,.struct [(0,180),(1,23)]⟩,
 some ⟨2,48,true,[.nils,.nils],.cells,.struct [(0,180),(1,23)]⟩,
 some ⟨8,64,true,[.int .i64 0,.int .i64 0,.int .i64 0,.int .i64 0,.int .i64 0,.int .i64 0,.int .i64 0,.int .i64 0],.ints .i64,.arr 8 87⟩,
 some ⟨12,96,true,[.int .i64 0,.int .i64 0,.int .i64 0,.int .i64 0,.int .i64 0,.int .i64 0,.int .i64 0,.int .i64 0,.int .i64 0,.int .i64 0,.int .i64 0,.int .i64 0],.ints .i64,.struct [(0,89),(4,183)]⟩,
 some ⟨12,96,true,[.int .i64 0,.int .i64 0,.int .i64 0,.int .i64 0,.int .i64 0,.int .i64 0,.int .i64 0,.int .i64 0,.int .i64 0,.int .i64 0,.int .i64 0,.int .i64 0],.ints .i64,.struct [(0,89),(4,183)]⟩,
 some ⟨5,40,true,[.int .i64 0,.int .i64 0,.int .i64 0,.int .i64 0,.int .i64 0],.ints .i64,.struct [(0,89),(4,87)]⟩,
 some ⟨5,40,true,[.int .i64 0,.int .i64 0,.int .i64 0,.int .i64 0,.int .i64 0],.ints .i64,.struct [(0,89),(4,87)]⟩,
 some ⟨1,8,false,[.nilf],.cells,.other⟩,
 some ⟨1,8,false,[.nilf],.cells,.other⟩,
 some ⟨1,8,false,[.nilf],.cells,.other⟩,
 some ⟨1,8,false,[.nilf],.cells,.other⟩,
 none,
 some ⟨1,8,false,[.nilf],.cells,.other⟩,
 some ⟨1,8,false,[.nilf],.cells,.other⟩,
 some ⟨1,8,false,[.nilf],.cells,.other⟩,
 some ⟨1,8,false,[.int .i64 0],.ints .i64,.int .i64⟩,
 none,
 some ⟨1,8,false,[.nilf],.cells,.other⟩,
 some ⟨1,8,false,[.nilf],.cells,.other⟩,
 some ⟨1,8,false,[.nilf],.cells,.other⟩,
 some ⟨1,8,false,[.nilf],.cells,.other⟩,
 none,
 some ⟨1,8,false,[.nilf],.cells,.other⟩,
 some ⟨1,8,false,[.nilf],.cells,.other⟩,
 some ⟨1,8,false,[.nilf],.cells,.other⟩,
 some ⟨1,8,false,[.nilf],.cells,.other⟩,
 some ⟨1,8,false,[.nilf],.cells,.other⟩,
 some ⟨1,8,false,[.nilf],.cells,.other⟩,
 some ⟨1,8,false,[.nilf],.cells,.other⟩,
 some ⟨1,8,false,[.nilf],.cells,.other⟩,
 some ⟨1,24,false,[.nils],.ivs .i64,.slice 87⟩,
 some ⟨1,8,false,[.nilf],.cells,.other⟩,
 some ⟨1,8,false,[.int .u64 0],.ints .u64,.int .u64⟩,
 some ⟨1,8,false,[.nilf],.cells,.other⟩,
 some ⟨1,8,false,[.nilf],.cells,.other⟩,
 some ⟨1,8,false,[.nilf],.cells,.other⟩,
 some ⟨1,8,false,[.nilp],.cells,.ptr 3⟩,
 some ⟨1,8,false,[.nilf],.cells,.other⟩,
 some ⟨1,8,false,[.nilp],.cells,.ptr 213⟩,
 none,
 some ⟨1,8,false,[.nilf],.cells,.other⟩,
 some ⟨1,8,false,[.nilf],.cells,.other⟩,
 some ⟨4,40,true,[.nilp,.nilp,.nilp,.str ByteArray.empty],.cells,.struct [(0,17),(1,17),(2,17),(3,9)]⟩,
 some ⟨4,40,true,[.nilp,.nilp,.nilp,.str ByteArray.empty],.cells,.struct [(0,17),(1,17),(2,17),(3,9)]⟩,
 none,
 none,
 none,
 some ⟨1,1,false,[.int .u8 0],.ints .u8,.int .u8⟩,
 some ⟨1,1,false,[.int .u8 0],.ints .u8,.int .u8⟩,
 some ⟨1,8,false,[.nilf],.cells,.other⟩,
 some ⟨1,8,false,[.nilp],.cells,.ptr 5⟩,
 some ⟨1,4,false,[.int .i32 0],.ints .i32,.int .i32⟩,
 some ⟨1,4,false,[.int .i32 0],.ints .i32,.int .i32⟩,
 some ⟨11,48,true,[.int .u64 0,.int .u64 0,.int .u32 0,.int .u8 0,.int .u8 0,.int .u8 0,.int .u8 0,.nilf,.nilp,.int .i32 0,.int .i32 0],.cells,.struct [(0,12),(1,12),(2,160),(3,228),(4,5),(5,5),(6,229),(7,230),(8,231),(9,232),(10,233)]⟩,
 some ⟨11,48,true,[.int .u64 0,.int .u64 0,.int .u32 0,.int .u8 0,.int .u8 0,.int .u8 0,.int .u8 0,.nilf,.nilp,.int .i32 0,.int .i32 0],.cells,.struct [(0,12),(1,12),(2,160),(3,228),(4,5),(5,5),(6,229),(7,230),(8,231),(9,232),(10,233)]⟩,
 none]
end
section
theorem hT:jA Tryz.prog tt:=O4 (by kernel_rfl)
theorem bM:Tryz.prog.follows .mixedOrders=true:=by kernel_rfl
theorem a5 {ct:CT} (hct:bN Tryz.prog ct) {lc:List (Nat×LC)} {fuel:Nat} {f:FuncId} {fn:Func} {args:List AV} {h:List b9} {p:iM} {o:xG} (hf:Tryz.prog.funcs[f]? =some fn)
  (hnm:(fn.name== "runtime.NumGoroutine")=false) (he:aG tt ct lc fuel fn args h p=some o) (ho:o.obl=true) (hq: ∀q∈o.eqs,q) (hlc: ∀c,fn.body=some c→aF Tryz.prog h.length lc c):
  bE Tryz.prog f args h o.res o.heap:=qG hT hct bM hf hnm he ho hq hlc
end
section
def eG (bs:List Bool):Nat→Nat→List Int
 |0,_=>[]
 |k+1,i=>if bs.getD i false then(i:Int)::eG bs k (i+1)else eG bs k (i+1)
def flg (bs:List Bool):List Int:=eG bs bs.length 0
noncomputable abbrev f112:=Tryz.f128
def uH (nl:Option Bool) (cap:Option Nat) (bs:List Bool) (i:Int) (n:Nat) (out:List Int):St:=
 bA 21 [(7,.c (.view nl (.bools bs) bs.length 1 cap)),(8,.c (.int .i64 bs.length)),(9,.c (.int .i64 i)),(3,.c (.sl 0 0 n 1 none))] [.live (.ints .i64 out)]
def KU (n:Nat) (out:List Int):St:=bA 21 [(3,.c (.sl 0 0 n 1 none))] [.live (.ints .i64 out)]
section
variable (ct : CT) (nl : Option Bool) (cap : Option Nat) (bs : List Bool) (i : Int) (n : Nat) (out : List Int)
theorem RW:aH 0 (aA f112 0) (aD f112 0) (aK tt ct [] 0 100 (a6 0 (a7 f112)) (uH nl cap bs i n out) [(0,true),(0,true)])=
  some (.normal,(decide (i<bs.length)&&(decide (0≤i)&&(decide (i<bs.length)&&(decide (i.toNat<bs.length)&&(bs.getD i.toNat false&&(decide (1=[i].length)&&(decide (n=out.length)&&(decide (n+1≤274877906944)&&true)))))))),[],
   uH nl cap bs (IntKind.i64.wrap (i+1)) (n+1) (out++[i])):=by kernel_rfl
theorem RX:aH 0 (aA f112 0) (aD f112 0) (aK tt ct [] 0 100 (a6 0 (a7 f112)) (uH nl cap bs i n out) [(0,true),(0,false)])=
  some (.normal,(decide (i<bs.length)&&(decide (0≤i)&&(decide (i<bs.length)&&(decide (i.toNat<bs.length)&&(!bs.getD i.toNat false&&true))))),[],
   uH nl cap bs (IntKind.i64.wrap (i+1)) n out):=by kernel_rfl
theorem RY:aH 0 (aA f112 0) (aD f112 0) (aK tt ct [] 0 100 (a6 0 (a7 f112)) (uH nl cap bs i n out) [(0,false)])=
  some (.exit 0,(!decide (i<bs.length)&&true),[],KU n out):=by kernel_rfl
end
theorem aE {i:Int} (h0:0≤i) (h1:i<9223372036854775808):IntKind.i64.wrap i=i:=by
 simp[IntKind.wrap,IntKind.bits,IntKind.signed]
 omega
theorem vP (bs:List Bool): ∀k i,(eG bs k i).length≤k
 |0,_=>by simp[eG]
 |k+1,i=>by
  have:=vP bs k (i+1)
  simp only[eG];split<;>simp<;>omega
def G0:aQ:=fun args h=>
 match args,h with
 |[.c (.view nl (.bools bs) len 1 cap)],[]=>some (.c (.sl 0 0 (flg bs).length 1 none),[.live (.ints .i64 (flg bs))],[decide (bs.length≤274877906944)])
 |_,_=>none
theorem a5J {ct:CT} (hct:bN Tryz.prog ct) (nl:Option Bool) (cap:Option Nat) (bs:List Bool) (hl:bs.length≤274877906944):
  aW Tryz.prog 0 (.block 0 (.loop (a6 0 (a7 f112)))) (uH nl cap bs 0 0 []) fun e t=>e=.normal∧t=KU (flg bs).length (flg bs):=by
 have key:=aW.roundsN hT hct bM (m:=0) (id:=0) (body:=a6 0 (a7 f112)) (α:=Nat×List Int)
  (fun x=>x.1≤bs.length∧x.2.length≤x.1∧x.2++eG bs (bs.length-x.1) x.1=flg bs) (fun x=>uH nl cap bs x.1 x.2.length x.2) (fun x=>bs.length-x.1) (aA f112 0) (aD f112 0)
  (fun _=>KU (flg bs).length (flg bs)) (fun _=>[]) (fun _ _=>aF.nil) (fun x hx=> ?_) (0,[]) ⟨by simp,by simp,by simp[flg]⟩
 ·exact key
 ·obtain⟨i,out⟩:=x
  obtain⟨h1,h2,h3⟩:=hx
  dsimp only at h1 h2 h3⊢
  by_cases hi:i<bs.length
  ·have hk:bs.length-i=(bs.length-(i+1))+1:=by omega
   rw[hk]at h3
   simp only[eG]at h3
   cases hb:bs.getD i false with
   |true=>
    refine⟨_,_,_,_,_,_,RW ct nl cap bs i out.length out, ?_,by simp,.inl ⟨rfl,(i+1,out++[(i:Int)]),⟨by omega,by simp;omega, ?_⟩,by dsimp only;omega, ?_,rfl⟩⟩
    ·simp[-List.getD_eq_getElem?_getD,hi,hb];omega
    ·rw[hb]at h3;simpa using h3
    ·rw[aE (by omega) (by omega)];simp
   |false=>
    refine⟨_,_,_,_,_,_,RX ct nl cap bs i out.length out, ?_,by simp,.inl ⟨rfl,(i+1,out),⟨by omega,by dsimp only;omega, ?_⟩,by dsimp only;omega, ?_,rfl⟩⟩
    ·simp[-List.getD_eq_getElem?_getD,hi,hb]
    ·rw[hb]at h3;simpa using h3
    ·rw[aE (by omega) (by omega)];simp
  ·have hz:bs.length-i=0:=by omega
   rw[hz]at h3
   simp only[eG,List.append_nil]at h3
   refine⟨_,_,_,_,_,_,RY ct nl cap bs i out.length out, ?_,by simp,.inr ⟨rfl,by rw[h3]⟩⟩
   simp;omega
theorem a6E {ct:CT} (hct:bN Tryz.prog ct):aS Tryz.prog 128 G0:=by
 intro args h res h' o he ho
 unfold G0 at he
 split at he
 ·rename_i nl bs len cap
  simp only[Option.some.injEq,Prod.mk.injEq]at he
  obtain⟨rfl,rfl,rfl⟩:=he
  have hl:bs.length≤274877906944:=by simpa using ho
  refine bE.len ⟨f112,by kernel_rfl,by kernel_rfl,by kernel_rfl⟩ fun hlen=> ?_
  have:len=bs.length:=by have:=hlen _ (List.mem_singleton.2 rfl);simpa [AV.lenOk,aJ.lenOk,Con.size]using this
  subst this
  exact a5 hct (fn:=f112) (lc:=[(0,⟨aA f112 0,uH nl cap bs 0 0 [],.normal,KU (flg bs).length (flg bs)⟩)]) (fuel:=100) (p:=[]) (o:=⟨_,_,true,[uH nl cap bs 0 0 []=uH nl cap bs 0 0 []]⟩) (by kernel_rfl) (by kernel_rfl) (by kernel_rfl) rfl
   (by simp) (fun c hc=>aF.cons (c:=c) (by cases hc;kernel_rfl) (by cases hc;exact a5J hct nl cap bs hl) aF.nil)
 ·cases he
end
section
def fok (n:Int):Bool:=decide (0≤n)&&decide (n≤30)
theorem cU {n:Int}:fok n=true↔0≤n∧n≤30:=by simp[fok]
theorem dQ {i:Int} (h0: -9223372036854775808≤i) (h1:i<9223372036854775808):IntKind.i64.wrap i=i:=by
 simp[IntKind.wrap,IntKind.bits,IntKind.signed]
 omega
theorem LU (n:Int):(IntKind.i64.wrap (n.tmod 31+31)).tmod 31=n%31:=by
 have h1: -31<n.tmod 31:=Int.lt_tmod_of_pos n (by omega)
 have h2:n.tmod 31<31:=Int.tmod_lt_of_pos n (by omega)
 rw[dQ (by omega) (by omega),Int.tmod_eq_emod_of_nonneg (by omega),Int.add_emod_right]
 rcases Int.le_total 0 n with h|h
 ·rw[Int.tmod_eq_emod_of_nonneg h];omega
 ·have:n.tmod 31= -((-n).tmod 31):=by rw[Int.neg_tmod];simp
  rw[this,Int.tmod_eq_emod_of_nonneg (by omega)];omega
def bet (n lo hi:Int):Bool:=decide (lo≤n)&&decide (n≤hi)
def v6:aQ:=fun args h=>
 match args,h with
 |[.c (.int .i64 n),.c (.int .i64 lo),.c (.int .i64 hi)],[]=>some (.c (.bool (bet n lo hi)),[],[])
 |_,_=>none
theorem a6J:aS Tryz.prog 109 v6:=by
 intro args h res h' o he ho
 unfold v6 at he
 split at he
 ·rename_i n lo hi
  simp only[Option.some.injEq,Prod.mk.injEq]at he
  obtain⟨rfl,rfl,rfl⟩:=he
  by_cases hc:n≥lo
  ·have e:aG tt (aB []) [] 100 Tryz.f109 [.c (.int .i64 n),.c (.int .i64 lo),.c (.int .i64 hi)] [] [(0,true)]=some ⟨.c (.bool (bif decide (n≥lo)then decide (n≤hi)else false)),[],decide (n≥lo)&&(decide (n≥lo)&&(decide (n≥lo)&&true)),[]⟩:=by kernel_rfl
   have hr:(bif decide (n≥lo)then decide (n≤hi)else false)=bet n lo hi:=by
    have:lo≤n:=hc
    simp[bet,this]
   rw[hr]at e
   exact a5 (aP (a8.nil _)) (by kernel_rfl) (by kernel_rfl) e (by simp[hc]) (by simp) (fun c _=>aF.nil)
  ·have e:aG tt (aB []) [] 100 Tryz.f109 [.c (.int .i64 n),.c (.int .i64 lo),.c (.int .i64 hi)] [] [(0,false)]=some ⟨.c (.bool false),[], !decide (n≥lo)&&(!decide (n≥lo)&&(!decide (n≥lo)&&(!decide (n≥lo)&&true))),[]⟩:=by kernel_rfl
   have hr:false=bet n lo hi:=by
    have: ¬lo≤n:=hc
    simp[bet,this]
   rw[hr]at e
   exact a5 (aP (a8.nil _)) (by kernel_rfl) (by kernel_rfl) e (by simp;omega) (by simp) (fun c _=>aF.nil)
 ·cases he
theorem m61:aS Tryz.prog 52 v6:=by
 intro args h res h' o he ho
 unfold v6 at he
 split at he
 ·rename_i n lo hi
  simp only[Option.some.injEq,Prod.mk.injEq]at he
  obtain⟨rfl,rfl,rfl⟩:=he
  by_cases hc:n≥lo
  ·have e:aG tt (aB []) [] 100 Tryz.f52 [.c (.int .i64 n),.c (.int .i64 lo),.c (.int .i64 hi)] [] [(0,true)]=some ⟨.c (.bool (bif decide (n≥lo)then decide (n≤hi)else false)),[],decide (n≥lo)&&(decide (n≥lo)&&(decide (n≥lo)&&true)),[]⟩:=by kernel_rfl
   have hr:(bif decide (n≥lo)then decide (n≤hi)else false)=bet n lo hi:=by
    have:lo≤n:=hc
    simp[bet,this]
   rw[hr]at e
   exact a5 (aP (a8.nil _)) (by kernel_rfl) (by kernel_rfl) e (by simp[hc]) (by simp) (fun c _=>aF.nil)
  ·have e:aG tt (aB []) [] 100 Tryz.f52 [.c (.int .i64 n),.c (.int .i64 lo),.c (.int .i64 hi)] [] [(0,false)]=some ⟨.c (.bool false),[], !decide (n≥lo)&&(!decide (n≥lo)&&(!decide (n≥lo)&&(!decide (n≥lo)&&true))),[]⟩:=by kernel_rfl
   have hr:false=bet n lo hi:=by
    have: ¬lo≤n:=hc
    simp[bet,this]
   rw[hr]at e
   exact a5 (aP (a8.nil _)) (by kernel_rfl) (by kernel_rfl) e (by simp;omega) (by simp) (fun c _=>aF.nil)
 ·cases he
def yJ:aQ:=fun args h=>
 match args,h with
 |[.c (.int .i64 n)],[]=>some (.c (.int .i64 (n%31)),[],[])
 |_,_=>none
theorem Y2:aS Tryz.prog 198 yJ:=by
 intro args h res h' o he ho
 unfold yJ at he
 split at he
 ·rename_i n
  simp only[Option.some.injEq,Prod.mk.injEq]at he
  obtain⟨rfl,rfl,rfl⟩:=he
  have e:aG tt (aB []) [] 100 Tryz.f198 [.c (.int .i64 n)] [] []=some ⟨.c (.int .i64 ((IntKind.i64.wrap (n.tmod 31+31)).tmod 31)),[],true,[]⟩:=by kernel_rfl
  rw[LU]at e
  exact a5 (aP (a8.nil _)) (by kernel_rfl) (by kernel_rfl) e rfl (by simp) (fun c _=>aF.nil)
 ·cases he
def inv (n:Int):Int:=[0,1,16,21,8,25,26,9,4,7,28,17,13,12,20,29,2,11,19,18,14,3,24,27,22,5,6,23,10,15,30].getD n.toNat 0
def v9:aQ:=fun args h=>
 match args,h with
 |[.c (.int .i64 n)],[]=>some (.c (.int .i64 (inv n)),[],[fok n])
 |_,_=>none
theorem MB {q:Int→Prop} (h: ∀k:Nat,k<31→q k) {n:Int} (hn:fok n=true):q n:=by
 obtain⟨h0,h1⟩:=cU.1 hn
 have:=h n.toNat (by omega)
 rwa[show(n.toNat:Int)=n from by omega]at this
def cB (f:Nat→Bool):Nat→Bool
 |0=>true
 |n+1=>f n&&cB f n
theorem aY {f:Nat→Bool}: ∀ {n:Nat},cB f n=true→ ∀k,k<n→f k=true
 |0,_,k,h=>absurd h (by omega)
 |n+1,h,k,hk=>by
  simp only[cB,Bool.and_eq_true]at h
  by_cases e:k=n
  ·subst e;exact h.1
  ·exact aY h.2 k (by omega)
def kI (r:Option xG) (n:Int):Bool:=
 match r with
 |some ⟨.c (.int .i64 m),[],true,[]⟩=>m==n
 |_=>false
theorem iH {r:Option xG} {n:Int} (h:kI r n=true):r=some ⟨.c (.int .i64 n),[],true,[]⟩:=by
 unfold kI at h
 split at h
 ·simp at h;subst h;rfl
 ·cases h
def T2a:List bF:=[⟨198,[],yJ⟩]
theorem t2a:bN Tryz.prog (aB T2a):=aP (a8.cons (e:=⟨198,[],yJ⟩) Y2 (a8.nil _))
theorem a7R:aS Tryz.prog 214 v9:=by
 intro args h res h' o he ho
 unfold v9 at he
 split at he
 ·rename_i n
  simp only[Option.some.injEq,Prod.mk.injEq]at he
  obtain⟨rfl,rfl,rfl⟩:=he
  refine MB (q:=fun n=>bE Tryz.prog _ [.c (.int .i64 n)] [] (.c (.int .i64 (inv n))) []) (fun k hk=> ?_) (ho _ (List.mem_singleton.2 rfl))
  have all:cB (fun k=>kI (aG tt (aB T2a) [] 1000 Tryz.f214 [.c (.int .i64 k)] [] []) (inv k)) 31=true:=by kernel_rfl
  have e:=iH (aY all k hk)
  exact a5 t2a (by kernel_rfl) (by kernel_rfl) e rfl (by simp) (fun c _=>aF.nil)
 ·cases he
theorem a7P:aS Tryz.prog 217 v9:=by
 intro args h res h' o he ho
 unfold v9 at he
 split at he
 ·rename_i n
  simp only[Option.some.injEq,Prod.mk.injEq]at he
  obtain⟨rfl,rfl,rfl⟩:=he
  refine MB (q:=fun n=>bE Tryz.prog _ [.c (.int .i64 n)] [] (.c (.int .i64 (inv n))) []) (fun k hk=> ?_) (ho _ (List.mem_singleton.2 rfl))
  have all:cB (fun k=>kI (aG tt (aB []) [] 1000 Tryz.f217 [.c (.int .i64 k)] [] []) (inv k)) 31=true:=by kernel_rfl
  have e:=iH (aY all k hk)
  exact a5 (aP (a8.nil _)) (by kernel_rfl) (by kernel_rfl) e rfl (by simp) (fun c _=>aF.nil)
 ·cases he
def T2:List bF:=[⟨198,[],yJ⟩,⟨109,[],v6⟩,⟨52,[],v6⟩,⟨214,[],v9⟩,⟨217,[],v9⟩,⟨128,[],G0⟩]
theorem e2:a8 Tryz.prog T2:=by
 intro e he
 simp only[T2,List.mem_cons,List.not_mem_nil,or_false]at he
 rcases he with rfl|rfl|rfl|rfl|rfl|rfl
 ·exact Y2
 ·exact a6J
 ·exact m61
 ·exact a7R
 ·exact a7P
 ·exact a6E (aP (a8.nil _))
theorem t2:bN Tryz.prog (aB T2):=aP e2
end
section
def v8:aQ:=fun args h=>
 match args,h with
 |[.c (.int .i64 n)],[]=>some (.c (.bool (fok n)),[],[])
 |_,_=>none
def gS (lo hi:Int):aQ:=fun args h=>
 match args,h with
 |[.c (.int .i64 n)],[]=>some (.c (.bool (bet n lo hi)),[],[])
 |_,_=>none
def BM:aQ:=fun args h=>
 match args,h with
 |[.c (.int .i64 n),.c (.int .i64 m)],[]=>some (.c (.int .i64 ((n+m)%31)),[],[fok n,fok m])
 |_,_=>none
def xB:aQ:=fun args h=>
 match args,h with
 |[.c (.int .i64 n),.c (.int .i64 m)],[]=>some (.c (.int .i64 ((n*m)%31)),[],[fok n,fok m])
 |_,_=>none
def wY:aQ:=fun args h=>
 match args,h with
 |[.c (.int .i64 n),.c (.int .i64 m)],[]=>some (.c (.int .i64 ((n-m)%31)),[],[fok n,fok m])
 |_,_=>none
theorem AZ {n m:Int} (hn:fok n=true) (hm:fok m=true):IntKind.i64.wrap (n+m)=n+m:=by
 obtain⟨a,b⟩:=cU.1 hn;obtain⟨c,d⟩:=cU.1 hm
 exact dQ (by omega) (by omega)
theorem KI {n m:Int} (hn:fok n=true) (hm:fok m=true):IntKind.i64.wrap (n-m)=n-m:=by
 obtain⟨a,b⟩:=cU.1 hn;obtain⟨c,d⟩:=cU.1 hm
 exact dQ (by omega) (by omega)
theorem l9 {n m:Int} (hn:fok n=true) (hm:fok m=true):0≤n*m∧n*m≤900:=by
 obtain⟨a,b⟩:=cU.1 hn;obtain⟨c,d⟩:=cU.1 hm
 refine⟨Int.mul_nonneg a c, ?_⟩
 have:=Int.mul_le_mul b d c (by omega:(0:Int)≤30)
 omega
theorem oO {n m:Int} (hn:fok n=true) (hm:fok m=true):IntKind.i64.wrap (n*m)=n*m:=by
 obtain⟨a,b⟩:=l9 hn hm
 exact dQ (by omega) (by omega)
theorem a6K:aS Tryz.prog 132 v8:=by
 intro args h res h' o he ho
 unfold v8 at he
 split at he
 ·rename_i n
  simp only[Option.some.injEq,Prod.mk.injEq]at he
  obtain⟨rfl,rfl,rfl⟩:=he
  have e:aG tt (aB T2) [] 100 Tryz.f132 [.c (.int .i64 n)] [] []=some ⟨.c (.bool (fok n)),[],true,[]⟩:=by kernel_rfl
  exact a5 t2 (by kernel_rfl) (by kernel_rfl) e rfl (by simp) (fun c _=>aF.nil)
 ·cases he
theorem a67:aS Tryz.prog 117 v8:=by
 intro args h res h' o he ho
 unfold v8 at he
 split at he
 ·rename_i n
  simp only[Option.some.injEq,Prod.mk.injEq]at he
  obtain⟨rfl,rfl,rfl⟩:=he
  have e:aG tt (aB T2) [] 100 Tryz.f117 [.c (.int .i64 n)] [] []=some ⟨.c (.bool (fok n)),[],true,[]⟩:=by kernel_rfl
  exact a5 t2 (by kernel_rfl) (by kernel_rfl) e rfl (by simp) (fun c _=>aF.nil)
 ·cases he
theorem m68:aS Tryz.prog 67 (gS 1 2):=by
 intro args h res h' o he ho
 unfold gS at he
 split at he
 ·rename_i n
  simp only[Option.some.injEq,Prod.mk.injEq]at he
  obtain⟨rfl,rfl,rfl⟩:=he
  have e:aG tt (aB T2) [] 100 Tryz.f67 [.c (.int .i64 n)] [] []=some ⟨.c (.bool (bet n 1 2)),[],true,[]⟩:=by kernel_rfl
  exact a5 t2 (by kernel_rfl) (by kernel_rfl) e rfl (by simp) (fun c _=>aF.nil)
 ·cases he
theorem m79:aS Tryz.prog 48 (gS 0 7):=by
 intro args h res h' o he ho
 unfold gS at he
 split at he
 ·rename_i n
  simp only[Option.some.injEq,Prod.mk.injEq]at he
  obtain⟨rfl,rfl,rfl⟩:=he
  have e:aG tt (aB T2) [] 100 Tryz.f48 [.c (.int .i64 n)] [] []=some ⟨.c (.bool (bet n 0 7)),[],true,[]⟩:=by kernel_rfl
  exact a5 t2 (by kernel_rfl) (by kernel_rfl) e rfl (by simp) (fun c _=>aF.nil)
 ·cases he
theorem m69:aS Tryz.prog 75 (gS 1 99):=by
 intro args h res h' o he ho
 unfold gS at he
 split at he
 ·rename_i n
  simp only[Option.some.injEq,Prod.mk.injEq]at he
  obtain⟨rfl,rfl,rfl⟩:=he
  have e:aG tt (aB T2) [] 100 Tryz.f75 [.c (.int .i64 n)] [] []=some ⟨.c (.bool (bet n 1 99)),[],true,[]⟩:=by kernel_rfl
  exact a5 t2 (by kernel_rfl) (by kernel_rfl) e rfl (by simp) (fun c _=>aF.nil)
 ·cases he
theorem m54:aS Tryz.prog 56 (gS 1 2):=by
 intro args h res h' o he ho
 unfold gS at he
 split at he
 ·rename_i n
  simp only[Option.some.injEq,Prod.mk.injEq]at he
  obtain⟨rfl,rfl,rfl⟩:=he
  have e:aG tt (aB T2) [] 100 Tryz.f56 [.c (.int .i64 n)] [] []=some ⟨.c (.bool (bet n 1 2)),[],true,[]⟩:=by kernel_rfl
  exact a5 t2 (by kernel_rfl) (by kernel_rfl) e rfl (by simp) (fun c _=>aF.nil)
 ·cases he
theorem a77:aS Tryz.prog 166 BM:=by
 intro args h res h' o he ho
 unfold BM at he
 split at he
 ·rename_i n m
  simp only[Option.some.injEq,Prod.mk.injEq]at he
  obtain⟨rfl,rfl,rfl⟩:=he
  have e:aG tt (aB T2) [] 100 Tryz.f166 [.c (.int .i64 n),.c (.int .i64 m)] [] []=some ⟨.c (.int .i64 ((IntKind.i64.wrap (n+m))%31)),[],true,[]⟩:=by kernel_rfl
  rw[AZ (ho (fok n) (by simp)) (ho (fok m) (by simp))]at e
  exact a5 t2 (by kernel_rfl) (by kernel_rfl) e rfl (by simp) (fun c _=>aF.nil)
 ·cases he
theorem a78:aS Tryz.prog 167 xB:=by
 intro args h res h' o he ho
 unfold xB at he
 split at he
 ·rename_i n m
  simp only[Option.some.injEq,Prod.mk.injEq]at he
  obtain⟨rfl,rfl,rfl⟩:=he
  have e:aG tt (aB T2) [] 100 Tryz.f167 [.c (.int .i64 n),.c (.int .i64 m)] [] []=some ⟨.c (.int .i64 ((IntKind.i64.wrap (n*m))%31)),[],true,[]⟩:=by kernel_rfl
  rw[oO (ho (fok n) (by simp)) (ho (fok m) (by simp))]at e
  exact a5 t2 (by kernel_rfl) (by kernel_rfl) e rfl (by simp) (fun c _=>aF.nil)
 ·cases he
theorem a7K:aS Tryz.prog 188 wY:=by
 intro args h res h' o he ho
 unfold wY at he
 split at he
 ·rename_i n m
  simp only[Option.some.injEq,Prod.mk.injEq]at he
  obtain⟨rfl,rfl,rfl⟩:=he
  have e:aG tt (aB T2) [] 100 Tryz.f188 [.c (.int .i64 n),.c (.int .i64 m)] [] []=some ⟨.c (.int .i64 ((IntKind.i64.wrap (n-m))%31)),[],true,[]⟩:=by kernel_rfl
  rw[KI (ho (fok n) (by simp)) (ho (fok m) (by simp))]at e
  exact a5 t2 (by kernel_rfl) (by kernel_rfl) e rfl (by simp) (fun c _=>aF.nil)
 ·cases he
def T3:List bF:=[⟨132,[],v8⟩,⟨117,[],v8⟩,⟨67,[],gS 1 2⟩,⟨48,[],gS 0 7⟩,⟨75,[],gS 1 99⟩,⟨56,[],gS 1 2⟩,⟨166,[],BM⟩,⟨167,[],xB⟩,⟨188,[],wY⟩]++T2
theorem e3:a8 Tryz.prog T3:=by
 refine a8.append ?_ e2
 intro e he
 simp only[List.mem_cons,List.not_mem_nil,or_false]at he
 rcases he with rfl|rfl|rfl|rfl|rfl|rfl|rfl|rfl|rfl
 ·exact a6K
 ·exact a67
 ·exact m68
 ·exact m79
 ·exact m69
 ·exact m54
 ·exact a77
 ·exact a78
 ·exact a7K
theorem t3:bN Tryz.prog (aB T3):=aP e3
end
section
def xF:aQ:=fun args h=>
 match args,h with
 |[.agg [.int .i64 a,.int .i64 b,.int .i64 c,.int .i64 d],.agg [.int .i64 x,.int .i64 y,.int .i64 z,.int .i64 t]],[]=>
  some (.agg [.int .i64 ((a+x)%31),.int .i64 ((b+y)%31),.int .i64 ((c+z)%31),.int .i64 ((d+t)%31)],[],[fok a,fok x,fok b,fok y,fok c,fok z,fok d,fok t])
 |_,_=>none
def s9:aQ:=fun args h=>
 match args,h with
 |[.agg [.int .i64 a,.int .i64 b,.int .i64 c,.int .i64 d],.c (.int .i64 x)],[]=>
  some (.agg [.int .i64 ((a*x)%31),.int .i64 ((b*x)%31),.int .i64 ((c*x)%31),.int .i64 ((d*x)%31)],[],[fok a,fok x,fok b,fok x,fok c,fok x,fok d,fok x])
 |_,_=>none
def CF (a b c d x y z t:Int):Int:=((((0+(a*x)%31)%31+(b*y)%31)%31+(c*z)%31)%31+(d*t)%31)%31
def C2:aQ:=fun args h=>
 match args,h with
 |[.agg [.int .i64 a,.int .i64 b,.int .i64 c,.int .i64 d],.agg [.int .i64 x,.int .i64 y,.int .i64 z,.int .i64 t]],[]=>
  some (.c (.int .i64 (CF a b c d x y z t)),[],[fok a,fok x,fok b,fok y,fok c,fok z,fok d,fok t])
 |_,_=>none
def xE:aQ:=fun args h=>
 match args,h with
 |[.agg [.int .i64 a,.int .i64 b,.int .i64 c,.int .i64 d]],[]=>some (.c (.sl 0 0 4 1 none),[.live (.ints .i64 [a,b,c,d])],[])
 |_,_=>none
theorem c9 (n:Int):fok (n%31)=true:=cU.2 ⟨by omega,by omega⟩
theorem a76:aS Tryz.prog 171 xF:=by
 intro args h res h' o he ho
 unfold xF at he
 split at he
 ·rename_i a b c d x y z t
  simp only[Option.some.injEq,Prod.mk.injEq]at he
  obtain⟨rfl,rfl,rfl⟩:=he
  have e:aG tt (aB T3) [] 100 Tryz.f171 [.agg [.int .i64 a,.int .i64 b,.int .i64 c,.int .i64 d],.agg [.int .i64 x,.int .i64 y,.int .i64 z,.int .i64 t]] [] []=some ⟨.agg [.int .i64 ((a+x)%31),.int .i64 ((b+y)%31),.int .i64 ((c+z)%31),.int .i64 ((d+t)%31)],[],(fok a&&(fok x&&(fok b&&(fok y&&(fok c&&(fok z&&(fok d&&(fok t&&true)))))))),[]⟩:=by kernel_rfl
  simp only[List.mem_cons,List.not_mem_nil,or_false,forall_eq_or_imp,forall_eq]at ho
  exact a5 t3 (by kernel_rfl) (by kernel_rfl) e (by simp[ho]) (by simp) (fun c _=>aF.nil)
 ·cases he
theorem a7J:aS Tryz.prog 187 s9:=by
 intro args h res h' o he ho
 unfold s9 at he
 split at he
 ·rename_i a b c d x
  simp only[Option.some.injEq,Prod.mk.injEq]at he
  obtain⟨rfl,rfl,rfl⟩:=he
  have e:aG tt (aB T3) [] 100 Tryz.f187 [.agg [.int .i64 a,.int .i64 b,.int .i64 c,.int .i64 d],.c (.int .i64 x)] [] []=some ⟨.agg [.int .i64 ((a*x)%31),.int .i64 ((b*x)%31),.int .i64 ((c*x)%31),.int .i64 ((d*x)%31)],[],(fok a&&(fok x&&(fok b&&(fok x&&(fok c&&(fok x&&(fok d&&(fok x&&true)))))))),[]⟩:=by kernel_rfl
  simp only[List.mem_cons,List.not_mem_nil,or_false,forall_eq_or_imp,forall_eq]at ho
  exact a5 t3 (by kernel_rfl) (by kernel_rfl) e (by simp[ho]) (by simp) (fun c _=>aF.nil)
 ·cases he
theorem a6O:aS Tryz.prog 126 C2:=by
 intro args h res h' o he ho
 unfold C2 at he
 split at he
 ·rename_i a b c d x y z t
  simp only[Option.some.injEq,Prod.mk.injEq]at he
  obtain⟨rfl,rfl,rfl⟩:=he
  have e:aG tt (aB T3) [] 100 Tryz.f126 [.agg [.int .i64 a,.int .i64 b,.int .i64 c,.int .i64 d],.agg [.int .i64 x,.int .i64 y,.int .i64 z,.int .i64 t]] [] []=some ⟨.c (.int .i64 (CF a b c d x y z t)),[],(fok a&&(fok x&&(fok ((a*x)%31)&&(fok b&&(fok y&&(fok ((0+(a*x)%31)%31)&&(fok ((b*y)%31)&&(fok c&&(fok z&&(fok (((0+(a*x)%31)%31+(b*y)%31)%31)&&(fok ((c*z)%31)&&(fok d&&(fok t&&(fok ((((0+(a*x)%31)%31+(b*y)%31)%31+(c*z)%31)%31)&&(fok ((d*t)%31)&&true))))))))))))))),[]⟩:=by kernel_rfl
  simp only[List.mem_cons,List.not_mem_nil,or_false,forall_eq_or_imp,forall_eq]at ho
  exact a5 t3 (by kernel_rfl) (by kernel_rfl) e (by simp[ho,c9]) (by simp) (fun c _=>aF.nil)
 ·cases he
theorem a6Z:aS Tryz.prog 153 xE:=by
 intro args h res h' o he ho
 unfold xE at he
 split at he
 ·rename_i a b c d
  simp only[Option.some.injEq,Prod.mk.injEq]at he
  obtain⟨rfl,rfl,rfl⟩:=he
  have e:aG tt (aB T3) [] 100 Tryz.f153 [.agg [.int .i64 a,.int .i64 b,.int .i64 c,.int .i64 d]] [] []=some ⟨.c (.sl 0 0 4 1 none),[.live (.ints .i64 [a,b,c,d])],true,[]⟩:=by kernel_rfl
  exact a5 t3 (by kernel_rfl) (by kernel_rfl) e rfl (by simp) (fun c _=>aF.nil)
 ·cases he
end
section
def eqC:aJ→aJ→Bool
 |.int k n,.int k' n'=>decide (k=k')&&decide (n=n')
 |.bool b,.bool b'=>b==b'
 |.sl id o len es none,.sl id' o' len' es' none=>id==id'&&o==o'&&len==len'&&es==es'
 |_,_=>false
theorem zJ {x y:aJ} (h:eqC x y=true):x=y:=by
 unfold eqC at h
 split at h
 ·simp at h;obtain⟨rfl,rfl⟩:=h;rfl
 ·simp at h;subst h;rfl
 ·simp at h;obtain⟨⟨⟨rfl,rfl⟩,rfl⟩,rfl⟩:=h;rfl
 ·cases h
def eqL {α:Type} (f:α→α→Bool):List α→List α→Bool
 |[],[]=>true
 |x::r,y::s=>f x y&&eqL f r s
 |_,_=>false
theorem iS {α:Type} {f:α→α→Bool} (hf: ∀x y,f x y=true→x=y): ∀ {l r:List α},eqL f l r=true→l=r
 |[],[],_=>rfl
 |x::l,y::r,h=>by
  simp only[eqL,Bool.and_eq_true]at h
  rw[hf _ _ h.1,iS hf h.2]
 |[],_::_,h=>by simp[eqL]at h
 |_::_,[],h=>by simp[eqL]at h
def eqA:AV→AV→Bool
 |.c x,.c y=>eqC x y
 |.agg l,.agg r=>eqL eqC l r
 |_,_=>false
theorem J1 {x y:AV} (h:eqA x y=true):x=y:=by
 unfold eqA at h
 split at h
 ·rw[zJ h]
 ·rw[iS (fun _ _=>zJ) h]
 ·cases h
def eqS:b9→b9→Bool
 |.live (.ints k xs),.live (.ints k' ys)=>decide (k=k')&&eqL (fun a b=>decide (a=b)) xs ys
 |.live (.bools xs),.live (.bools ys)=>eqL (fun a b=>a==b) xs ys
 |_,_=>false
theorem J2 {x y:b9} (h:eqS x y=true):x=y:=by
 unfold eqS at h
 split at h
 ·simp only[Bool.and_eq_true,decide_eq_true_eq]at h
  obtain⟨rfl,h⟩:=h
  rw[iS (fun a b h=>by simpa using h) h]
 ·rw[iS (fun a b h=>by simpa using h) h]
 ·cases h
def vR (r:Option xG) (res:AV) (heap:List b9):Bool:=
 match r with
 |some ⟨a,h,true,[]⟩=>eqA a res&&eqL eqS h heap
 |_=>false
theorem jG {r:Option xG} {res:AV} {heap:List b9} (h:vR r res heap=true):r=some ⟨res,heap,true,[]⟩:=by
 unfold vR at h
 split at h
 ·simp only[Bool.and_eq_true]at h
  rw[J1 h.1,iS (fun _ _=>J2) h.2]
 ·cases h
def PB (n:Int):List aJ:=[.int .i64 (if n=0 then 1 else 0),.int .i64 (if n=1 then 1 else 0),.int .i64 (if n=2 then 1 else 0),.int .i64 (if n=3 then 1 else 0)]
def C0:aQ:=fun args h=>
 match args,h with
 |[.c (.int .i64 n)],[]=>some (.agg (PB n),[],[bet n 0 3])
 |_,_=>none
def RO (x:Int):List aJ:=[.int .i64 1,.int .i64 (1*x%31),.int .i64 (1*x%31*x%31),.int .i64 (1*x%31*x%31*x%31)]
def GM:aQ:=fun args h=>
 match args,h with
 |[.c (.int .i64 x)],[]=>some (.agg (RO x),[],[fok x])
 |_,_=>none
theorem a75:aS Tryz.prog 170 C0:=by
 intro args h res h' o he ho
 unfold C0 at he
 split at he
 ·rename_i n
  simp only[Option.some.injEq,Prod.mk.injEq]at he
  obtain⟨rfl,rfl,rfl⟩:=he
  have hb:=ho (bet n 0 3) (List.mem_singleton.2 rfl)
  simp only[bet,Bool.and_eq_true,decide_eq_true_eq]at hb
  have all:cB (fun k=>vR (aG tt (aB T3) [] 1000 Tryz.f170 [.c (.int .i64 (k:Nat))] [] []) (.agg (PB (k:Nat))) []) 4=true:=by kernel_rfl
  have e:=jG (aY all n.toNat (by omega))
  rw[show((n.toNat:Nat):Int)=n from by omega]at e
  exact a5 t3 (by kernel_rfl) (by kernel_rfl) e rfl (by simp) (fun c _=>aF.nil)
 ·cases he
theorem a74:aS Tryz.prog 169 GM:=by
 intro args h res h' o he ho
 unfold GM at he
 split at he
 ·rename_i n
  simp only[Option.some.injEq,Prod.mk.injEq]at he
  obtain⟨rfl,rfl,rfl⟩:=he
  refine MB (q:=fun n=>bE Tryz.prog _ [.c (.int .i64 n)] [] (.agg (RO n)) []) (fun k hk=> ?_) (ho _ (List.mem_singleton.2 rfl))
  have all:cB (fun k=>vR (aG tt (aB T3) [] 1000 Tryz.f169 [.c (.int .i64 k)] [] []) (.agg (RO k)) []) 31=true:=by kernel_rfl
  exact a5 t3 (by kernel_rfl) (by kernel_rfl) (jG (aY all k hk)) rfl (by simp) (fun c _=>aF.nil)
 ·cases he
def T5a:List bF:=[⟨170,[],C0⟩,⟨169,[],GM⟩,⟨171,[],xF⟩]++T3
theorem e5a:a8 Tryz.prog T5a:=by
 refine a8.append ?_ e3
 intro e he
 simp only[List.mem_cons,List.not_mem_nil,or_false]at he
 rcases he with rfl|rfl|rfl
 ·exact a75
 ·exact a74
 ·exact a76
theorem t5a:bN Tryz.prog (aB T5a):=aP e5a
def CM (r:Option xG) (xs:List Int) (len:Nat):Bool:=
 match r with
 |some ⟨.c (.view none (.ints .i64 ys) l 1 none),[],true,[]⟩=>eqL (fun a b=>decide (a=b)) ys xs&&l==len
 |_=>false
theorem zN {r:Option xG} {xs:List Int} {len:Nat} (h:CM r xs len=true):r=some ⟨.c (.view none (.ints .i64 xs) len 1 none),[],true,[]⟩:=by
 unfold CM at h
 split at h
 ·simp only[Bool.and_eq_true,beq_iff_eq]at h
  rw[iS (fun a b h=>by simpa using h) h.1,h.2]
 ·cases h
def aL (kind at_:Int):List Int:=
 if kind=1 then [[1,0,0,0],[0,1,0,0],[0,0,1,0],[0,0,0,1],[1,1,0,0],[0,0,1,1],[1,2,4,8],[1,3,9,27]].getD at_.toNat []
 else [1,(at_+1)%31,(at_+1)*(at_+1)%31,(at_+1)*(at_+1)*(at_+1)%31]
def TU (kind at_:Int):List aJ:=[.int .i64 ((aL kind at_).getD 0 0),.int .i64 ((aL kind at_).getD 1 0),.int .i64 ((aL kind at_).getD 2 0),.int .i64 ((aL kind at_).getD 3 0)]
def GO:aQ:=fun args h=>
 match args,h with
 |[.c (.int .i64 k),.c (.int .i64 a)],[]=>some (.agg (TU k a),[],[bet k 1 2,bet a 0 7])
 |_,_=>none
def wT:aQ:=fun args h=>
 match args,h with
 |[.c (.int .i64 k),.c (.int .i64 a)],[]=>some (.c (.view none (.ints .i64 (aL k a)) 4 1 none),[],[bet k 1 2,bet a 0 7])
 |_,_=>none
theorem JJ {q:Int→Int→Prop} (h: ∀k:Nat,k<16→q ((k/8:Nat)+1:Int) (k%8:Nat)) {k a:Int} (hk:bet k 1 2=true) (ha:bet a 0 7=true):q k a:=by
 simp only[bet,Bool.and_eq_true,decide_eq_true_eq]at hk ha
 have:=h ((k.toNat-1)*8+a.toNat) (by omega)
 have e1:(((((k.toNat-1)*8+a.toNat)/8:Nat):Int)+1)=k:=by omega
 have e2:((((k.toNat-1)*8+a.toNat)%8:Nat):Int)=a:=by omega
 rwa[e1,e2]at this
theorem a6N:aS Tryz.prog 125 GO:=by
 intro args h res h' o he ho
 unfold GO at he
 split at he
 ·rename_i k a
  simp only[Option.some.injEq,Prod.mk.injEq]at he
  obtain⟨rfl,rfl,rfl⟩:=he
  refine JJ (q:=fun k a=>bE Tryz.prog _ [.c (.int .i64 k),.c (.int .i64 a)] [] (.agg (TU k a)) []) (fun i hi=> ?_) (ho _ (by simp)) (ho _ (by simp))
  have all:cB (fun k=>vR (aG tt (aB T5a) [] 1000 Tryz.f125 [.c (.int .i64 ((k/8:Nat)+1:Int)),.c (.int .i64 (k%8:Nat))] [] []) (.agg (TU ((k/8:Nat)+1:Int) (k%8:Nat))) []) 16=true:=by kernel_rfl
  exact a5 t5a (by kernel_rfl) (by kernel_rfl) (jG (aY all i hi)) rfl (by simp) (fun c _=>aF.nil)
 ·cases he
theorem a6C:aS Tryz.prog 120 wT:=by
 intro args h res h' o he ho
 unfold wT at he
 split at he
 ·rename_i k a
  simp only[Option.some.injEq,Prod.mk.injEq]at he
  obtain⟨rfl,rfl,rfl⟩:=he
  refine JJ (q:=fun k a=>bE Tryz.prog _ [.c (.int .i64 k),.c (.int .i64 a)] [] (.c (.view none (.ints .i64 (aL k a)) 4 1 none)) []) (fun i hi=> ?_) (ho _ (by simp)) (ho _ (by simp))
  by_cases h8:i<8
  ·have all:cB (fun k=>CM (aG tt (aB T3) [] 1000 Tryz.f120 [.c (.int .i64 ((k/8:Nat)+1:Int)),.c (.int .i64 (k%8:Nat))] [] []) (aL ((k/8:Nat)+1:Int) (k%8:Nat)) 4) 8=true:=by kernel_rfl
   exact a5 t3 (by kernel_rfl) (by kernel_rfl) (zN (aY all i h8)) rfl (by simp) (fun c _=>aF.nil)
  ·have all:cB (fun k=>vR (aG tt (aB T3) [] 1000 Tryz.f120 [.c (.int .i64 (((k+8)/8:Nat)+1:Int)),.c (.int .i64 ((k+8)%8:Nat))] [] []) (.c (.sl 0 0 4 1 none)) [.live (.ints .i64 (aL (((k+8)/8:Nat)+1:Int) ((k+8)%8:Nat)))]) 8=true:=by kernel_rfl
   have e:=jG (aY all (i-8) (by omega))
   rw[show i-8+8=i from by omega]at e
   refine bE.view (a5 t3 (by kernel_rfl) (by kernel_rfl) e rfl (by simp) (fun c _=>aF.nil)) rfl ?_
   have:(((i/8:Nat)+1:Int))=2:=by omega
   rw[this];rfl
 ·cases he
def T5:List bF:=[⟨125,[],GO⟩,⟨120,[],wT⟩,⟨187,[],s9⟩,⟨126,[],C2⟩,⟨153,[],xE⟩]++T5a
theorem e5:a8 Tryz.prog T5:=by
 refine a8.append ?_ e5a
 intro e he
 simp only[List.mem_cons,List.not_mem_nil,or_false]at he
 rcases he with rfl|rfl|rfl|rfl|rfl
 ·exact a6N
 ·exact a6C
 ·exact a7J
 ·exact a6O
 ·exact a6Z
theorem t5:bN Tryz.prog (aB T5):=aP e5
end
section
def a9 (v:List Int):Bool:=v.all fok
theorem aR {v:List Int} (h:a9 v=true) (i:Nat):fok (v.getD i 0)=true:=by
 rcases Nat.lt_or_ge i v.length with hi|hi
 ·rw[List.getD_eq_getElem?_getD,List.getElem?_eq_getElem hi]
  exact List.all_eq_true.1 h _ (List.getElem_mem hi)
 ·rw[List.getD_eq_getElem?_getD,List.getElem?_eq_none hi];rfl
theorem nT {n:Int} (h:0≤n):n.tmod 31=n%31:=Int.tmod_eq_emod_of_nonneg h
def qF (v w:List Int):Nat→Nat→Int→Int
 |0,_,n=>n
 |k+1,i,n=>qF v w k (i+1) ((n+v.getD i 0*w.getD i 0)%31)
def aT (v w:List Int):Int:=qF v w v.length 0 0
noncomputable abbrev f108:=Tryz.f119
def yK (nl nl2:Option Bool) (cap cap2:Option Nat) (v w:List Int) (i n:Int):St:=
 bA 26 [(0,.c (.view nl (.ints .i64 v) v.length 1 cap)),(1,.c (.view nl2 (.ints .i64 w) w.length 1 cap2)),(5,.c (.int .i64 n)),(6,.c (.int .i64 i))] []
def KT (n:Int):St:=bA 26 [(5,.c (.int .i64 n))] []
section
variable (ct : CT) (nl nl2 : Option Bool) (cap cap2 : Option Nat) (v w : List Int) (i n : Int)
theorem RU:aH 0 (aA f108 0) (aD f108 0) (aK tt ct [] 0 100 (a6 0 (a7 f108)) (yK nl nl2 cap cap2 v w i n) [(0,true)])=
  some (.normal,(decide (i<v.length)&&(decide (0≤i)&&(decide (i<v.length)&&(decide (i.toNat<v.length)&&(decide (0≤i)&&(decide (i<w.length)&&(decide (i.toNat<w.length)&&true))))))),[],
   yK nl nl2 cap cap2 v w (IntKind.i64.wrap (i+1)) ((IntKind.i64.wrap (n+IntKind.i64.wrap (v.getD i.toNat 0*w.getD i.toNat 0))).tmod 31)):=by kernel_rfl
theorem RV:aH 0 (aA f108 0) (aD f108 0) (aK tt ct [] 0 100 (a6 0 (a7 f108)) (yK nl nl2 cap cap2 v w i n) [(0,false)])=
  some (.exit 0,(!decide (i<v.length)&&true),[],KT n):=by kernel_rfl
end
theorem sS {n a b:Int} (hn:fok n=true) (ha:fok a=true) (hb:fok b=true):(IntKind.i64.wrap (n+IntKind.i64.wrap (a*b))).tmod 31=(n+a*b)%31:=by
 obtain⟨h1,h2⟩:=l9 ha hb
 obtain⟨h3,h4⟩:=cU.1 hn
 rw[oO ha hb,dQ (by omega) (by omega),nT (by omega)]
theorem a5I {ct:CT} (hct:bN Tryz.prog ct) (nl nl2:Option Bool) (cap cap2:Option Nat) (v w:List Int) (hl:v.length≤274877906944) (hvw:v.length≤w.length) (hv:a9 v=true) (hw:a9 w=true):
  aW Tryz.prog 0 (.block 0 (.loop (a6 0 (a7 f108)))) (yK nl nl2 cap cap2 v w 0 0) fun e t=>e=.normal∧t=KT (aT v w):=by
 refine aW.roundsN hT hct bM (m:=0) (id:=0) (body:=a6 0 (a7 f108)) (α:=Nat×Int)
  (fun x=>x.1≤v.length∧fok x.2=true∧qF v w (v.length-x.1) x.1 x.2=aT v w) (fun x=>yK nl nl2 cap cap2 v w x.1 x.2) (fun x=>v.length-x.1) (aA f108 0) (aD f108 0)
  (fun _=>KT (aT v w)) (fun _=>[]) (fun _ _=>aF.nil) (fun x hx=> ?_) (0,0) ⟨by simp,rfl,rfl⟩
 obtain⟨i,n⟩:=x
 obtain⟨h1,h2,h3⟩:=hx
 dsimp only at h1 h2 h3⊢
 by_cases hi:i<v.length
 ·have hk:v.length-i=(v.length-(i+1))+1:=by omega
  rw[hk]at h3
  simp only[qF]at h3
  refine⟨_,_,_,_,_,_,RU ct nl nl2 cap cap2 v w i n, ?_,by simp,.inl ⟨rfl,(i+1,(n+v.getD i 0*w.getD i 0)%31),⟨by omega,c9 _,h3⟩,by dsimp only;omega, ?_,rfl⟩⟩
  ·simp;omega
  ·rw[aE (by omega) (by omega),Int.toNat_natCast,sS h2 (aR hv i) (aR hw i)];simp
 ·have hz:v.length-i=0:=by omega
  rw[hz]at h3
  simp only[qF]at h3
  exact⟨_,_,_,_,_,_,RV ct nl nl2 cap cap2 v w i n,by simp;omega,by simp,.inr ⟨rfl,by rw[h3]⟩⟩
def GA:aQ:=fun args h=>
 match args,h with
 |[.c (.view nl (.ints .i64 v) len 1 cap),.c (.view nl2 (.ints .i64 w) len2 1 cap2)],[]=>
  some (.c (.int .i64 (aT v w)),[],[decide (v.length≤274877906944),decide (v.length≤w.length),a9 v,a9 w])
 |_,_=>none
theorem a6B {ct:CT} (hct:bN Tryz.prog ct):aS Tryz.prog 119 GA:=by
 intro args h res h' o he ho
 unfold GA at he
 split at he
 ·rename_i nl v len cap nl2 w len2 cap2
  simp only[Option.some.injEq,Prod.mk.injEq]at he
  obtain⟨rfl,rfl,rfl⟩:=he
  simp only[List.mem_cons,List.not_mem_nil,or_false,forall_eq_or_imp,forall_eq,decide_eq_true_eq]at ho
  obtain⟨o1,o2,o3,o4⟩:=ho
  refine bE.len ⟨f108,by kernel_rfl,by kernel_rfl,by kernel_rfl⟩ fun hlen=> ?_
  simp only[List.mem_cons,List.not_mem_nil,or_false,forall_eq_or_imp,forall_eq,AV.lenOk,aJ.lenOk,Con.size,Nat.mul_one]at hlen
  obtain⟨rfl,rfl⟩:=hlen
  exact a5 hct (fn:=f108) (lc:=[(0,⟨aA f108 0,yK nl nl2 cap cap2 v w 0 0,.normal,KT (aT v w)⟩)]) (fuel:=100) (p:=[]) (o:=⟨_,_,true,[yK nl nl2 cap cap2 v w 0 0=yK nl nl2 cap cap2 v w 0 0]⟩)
   (by kernel_rfl) (by kernel_rfl) (by kernel_rfl) rfl (by simp) (fun c hc=>aF.cons (c:=c) (by cases hc;kernel_rfl) (by cases hc;exact a5I hct nl nl2 cap cap2 v w o1 o2 o3 o4) aF.nil)
 ·cases he
end
section
def hG (f:Nat→Int):Nat→Nat→List Int
 |0,_=>[]
 |k+1,i=>f i::hG f k (i+1)
theorem pG (f:Nat→Int): ∀k i,(hG f k i).length=k
 |0,_=>rfl
 |k+1,i=>by simp[hG,pG f k (i+1)]
def O2 (v w:List Int) (i:Nat):Int:=(v.getD i 0+w.getD i 0)%31
def uA (v w:List Int):List Int:=hG (O2 v w) v.length 0
noncomputable abbrev mG:=Tryz.f218
noncomputable def yP (nl nl2:Option Bool) (cap cap2:Option Nat) (v w:List Int) (i:Int) (n:Nat) (out:List Int):St:=
 bA mG.ntmps [(0,.c (.view nl (.ints .i64 v) v.length 1 cap)),(1,.c (.view nl2 (.ints .i64 w) w.length 1 cap2)),(5,.c (.sl 0 0 n 1 none)),(6,.c (.int .i64 i))] [.live (.ints .i64 out)]
noncomputable def L9 (n:Nat) (out:List Int):St:=bA mG.ntmps [(5,.c (.sl 0 0 n 1 none))] [.live (.ints .i64 out)]
section
variable (ct : CT) (nl nl2 : Option Bool) (cap cap2 : Option Nat) (v w : List Int) (i : Int) (n : Nat) (out : List Int)
theorem TC:aH 0 (aA mG 0) (aD mG 0) (aK tt ct [] 0 100 (a6 0 (a7 mG)) (yP nl nl2 cap cap2 v w i n out) [(0,true)])=
  some (.normal,(decide (i<v.length)&&(decide (0≤i)&&(decide (i<v.length)&&(decide (i.toNat<v.length)&&(decide (0≤i)&&(decide (i<w.length)&&(decide (i.toNat<w.length)&&
   (decide (1=[(IntKind.i64.wrap (v.getD i.toNat 0+w.getD i.toNat 0)).tmod 31].length)&&(decide (n=out.length)&&(decide (n+1≤274877906944)&&true)))))))))),[],
   yP nl nl2 cap cap2 v w (IntKind.i64.wrap (i+1)) (n+1) (out++[(IntKind.i64.wrap (v.getD i.toNat 0+w.getD i.toNat 0)).tmod 31])):=by kernel_rfl
theorem TE:aH 0 (aA mG 0) (aD mG 0) (aK tt ct [] 0 100 (a6 0 (a7 mG)) (yP nl nl2 cap cap2 v w i n out) [(0,false)])=
  some (.exit 0,(!decide (i<v.length)&&true),[],L9 n out):=by kernel_rfl
end
theorem KA {a b:Int} (ha:fok a=true) (hb:fok b=true):(IntKind.i64.wrap (a+b)).tmod 31=(a+b)%31:=by
 obtain⟨h3,h4⟩:=cU.1 ha;obtain⟨h1,h2⟩:=cU.1 hb
 rw[AZ ha hb,nT (by omega)]
theorem a61 {ct:CT} (hct:bN Tryz.prog ct) (nl nl2:Option Bool) (cap cap2:Option Nat) (v w:List Int) (hl:v.length≤274877906944) (hvw:v.length≤w.length) (hv:a9 v=true) (hw:a9 w=true):
  aW Tryz.prog 0 (.block 0 (.loop (a6 0 (a7 mG)))) (yP nl nl2 cap cap2 v w 0 0 []) fun e t=>e=.normal∧t=L9 v.length (uA v w):=by
 refine aW.roundsN hT hct bM (m:=0) (id:=0) (body:=a6 0 (a7 mG)) (α:=Nat×List Int)
  (fun x=>x.1≤v.length∧x.2.length=x.1∧x.2++hG (O2 v w) (v.length-x.1) x.1=uA v w) (fun x=>yP nl nl2 cap cap2 v w x.1 x.2.length x.2) (fun x=>v.length-x.1) (aA mG 0) (aD mG 0)
  (fun _=>L9 v.length (uA v w)) (fun _=>[]) (fun _ _=>aF.nil) (fun x hx=> ?_) (0,[]) ⟨by simp,rfl,rfl⟩
 obtain⟨i,out⟩:=x
 obtain⟨h1,h2,h3⟩:=hx
 dsimp only at h1 h2 h3⊢
 by_cases hi:i<v.length
 ·have hk:v.length-i=(v.length-(i+1))+1:=by omega
  rw[hk]at h3
  simp only[hG]at h3
  refine⟨_,_,_,_,_,_,TC ct nl nl2 cap cap2 v w i out.length out, ?_,by simp,.inl ⟨rfl,(i+1,out++[O2 v w i]),⟨by omega,by simp[h2],by simpa using h3⟩,by dsimp only;omega, ?_,rfl⟩⟩
  ·simp;omega
  ·rw[aE (by omega) (by omega),Int.toNat_natCast,KA (aR hv i) (aR hw i)];simp[O2]
 ·have hz:v.length-i=0:=by omega
  rw[hz]at h3
  simp only[hG,List.append_nil]at h3
  have e:out.length=v.length:=by omega
  exact⟨_,_,_,_,_,_,TE ct nl nl2 cap cap2 v w i out.length out,by simp;omega,by simp,.inr ⟨rfl,by rw[←h3,e]⟩⟩
def GT:aQ:=fun args h=>
 match args,h with
 |[.c (.view nl (.ints .i64 v) len 1 cap),.c (.view nl2 (.ints .i64 w) len2 1 cap2)],[]=>
  some (.c (.sl 0 0 v.length 1 none),[.live (.ints .i64 (uA v w))],[decide (v.length≤274877906944),decide (v.length≤w.length),a9 v,a9 w])
 |_,_=>none
theorem Y3 {ct:CT} (hct:bN Tryz.prog ct):aS Tryz.prog 218 GT:=by
 intro args h res h' o he ho
 unfold GT at he
 split at he
 ·rename_i nl v len cap nl2 w len2 cap2
  simp only[Option.some.injEq,Prod.mk.injEq]at he
  obtain⟨rfl,rfl,rfl⟩:=he
  simp only[List.mem_cons,List.not_mem_nil,or_false,forall_eq_or_imp,forall_eq,decide_eq_true_eq]at ho
  obtain⟨o1,o2,o3,o4⟩:=ho
  refine bE.len ⟨mG,by kernel_rfl,by kernel_rfl,by kernel_rfl⟩ fun hlen=> ?_
  simp only[List.mem_cons,List.not_mem_nil,or_false,forall_eq_or_imp,forall_eq,AV.lenOk,aJ.lenOk,Con.size,Nat.mul_one]at hlen
  obtain⟨rfl,rfl⟩:=hlen
  exact a5 hct (fn:=mG) (lc:=[(0,⟨aA mG 0,yP nl nl2 cap cap2 v w 0 0 [],.normal,L9 v.length (uA v w)⟩)]) (fuel:=100) (p:=[]) (o:=⟨_,_,true,[yP nl nl2 cap cap2 v w 0 0 []=yP nl nl2 cap cap2 v w 0 0 []]⟩)
   (by kernel_rfl) (by kernel_rfl) (by kernel_rfl) rfl (by simp) (fun c hc=>aF.cons (c:=c) (by cases hc;kernel_rfl) (by cases hc;exact a61 hct nl nl2 cap cap2 v w o1 o2 o3 o4) aF.nil)
 ·cases he
end
section
def pO (v:List Int) (c:Int) (i:Nat):Int:=(v.getD i 0*c)%31
def eE (v:List Int) (c:Int):List Int:=hG (pO v c) v.length 0
noncomputable abbrev f156:=Tryz.f194
noncomputable def yN (nl:Option Bool) (cap:Option Nat) (v:List Int) (c i:Int) (n:Nat) (out:List Int):St:=
 bA f156.ntmps [(0,.c (.view nl (.ints .i64 v) v.length 1 cap)),(1,.c (.int .i64 c)),(5,.c (.sl 0 0 n 1 none)),(6,.c (.int .i64 i))] [.live (.ints .i64 out)]
noncomputable def L4 (n:Nat) (out:List Int):St:=bA f156.ntmps [(5,.c (.sl 0 0 n 1 none))] [.live (.ints .i64 out)]
section
variable (ct : CT) (nl : Option Bool) (cap : Option Nat) (v : List Int) (c i : Int) (n : Nat) (out : List Int)
theorem ST:aH 0 (aA f156 0) (aD f156 0) (aK tt ct [] 0 100 (a6 0 (a7 f156)) (yN nl cap v c i n out) [(0,true)])=
  some (.normal,(decide (i<v.length)&&(decide (0≤i)&&(decide (i<v.length)&&(decide (i.toNat<v.length)&&((decide (1=[(IntKind.i64.wrap (v.getD i.toNat 0*c)).tmod 31].length)&&(decide (n=out.length)&&(decide (n+1≤274877906944)&&true)))))))),[],
   yN nl cap v c (IntKind.i64.wrap (i+1)) (n+1) (out++[(IntKind.i64.wrap (v.getD i.toNat 0*c)).tmod 31])):=by kernel_rfl
theorem SU:aH 0 (aA f156 0) (aD f156 0) (aK tt ct [] 0 100 (a6 0 (a7 f156)) (yN nl cap v c i n out) [(0,false)])=
  some (.exit 0,(!decide (i<v.length)&&true),[],L4 n out):=by kernel_rfl
end
theorem D3 {a b:Int} (ha:fok a=true) (hb:fok b=true):(IntKind.i64.wrap (a*b)).tmod 31=(a*b)%31:=by
 obtain⟨h1,h2⟩:=l9 ha hb
 rw[oO ha hb,nT (by omega)]
theorem a5W {ct:CT} (hct:bN Tryz.prog ct) (nl:Option Bool) (cap:Option Nat) (v:List Int) (c:Int) (hl:v.length≤274877906944) (hv:a9 v=true) (hc:fok c=true):
  aW Tryz.prog 0 (.block 0 (.loop (a6 0 (a7 f156)))) (yN nl cap v c 0 0 []) fun e t=>e=.normal∧t=L4 v.length (eE v c):=by
 refine aW.roundsN hT hct bM (m:=0) (id:=0) (body:=a6 0 (a7 f156)) (α:=Nat×List Int)
  (fun x=>x.1≤v.length∧x.2.length=x.1∧x.2++hG (pO v c) (v.length-x.1) x.1=eE v c) (fun x=>yN nl cap v c x.1 x.2.length x.2) (fun x=>v.length-x.1) (aA f156 0) (aD f156 0)
  (fun _=>L4 v.length (eE v c)) (fun _=>[]) (fun _ _=>aF.nil) (fun x hx=> ?_) (0,[]) ⟨by simp,rfl,rfl⟩
 obtain⟨i,out⟩:=x
 obtain⟨h1,h2,h3⟩:=hx
 dsimp only at h1 h2 h3⊢
 by_cases hi:i<v.length
 ·have hk:v.length-i=(v.length-(i+1))+1:=by omega
  rw[hk]at h3
  simp only[hG]at h3
  refine⟨_,_,_,_,_,_,ST ct nl cap v c i out.length out, ?_,by simp,.inl ⟨rfl,(i+1,out++[pO v c i]),⟨by omega,by simp[h2],by simpa using h3⟩,by dsimp only;omega, ?_,rfl⟩⟩
  ·simp;omega
  ·rw[aE (by omega) (by omega),Int.toNat_natCast,D3 (aR hv i) hc];simp[pO]
 ·have hz:v.length-i=0:=by omega
  rw[hz]at h3
  simp only[hG,List.append_nil]at h3
  have e:out.length=v.length:=by omega
  exact⟨_,_,_,_,_,_,SU ct nl cap v c i out.length out,by simp;omega,by simp,.inr ⟨rfl,by rw[←h3,e]⟩⟩
def rJ:aQ:=fun args h=>
 match args,h with
 |[.c (.view nl (.ints .i64 v) len 1 cap),.c (.int .i64 c)],[]=>
  some (.c (.sl 0 0 v.length 1 none),[.live (.ints .i64 (eE v c))],[decide (v.length≤274877906944),a9 v,fok c])
 |_,_=>none
theorem RF {ct:CT} (hct:bN Tryz.prog ct):aS Tryz.prog 194 rJ:=by
 intro args h res h' o he ho
 unfold rJ at he
 split at he
 ·rename_i nl v len cap c
  simp only[Option.some.injEq,Prod.mk.injEq]at he
  obtain⟨rfl,rfl,rfl⟩:=he
  simp only[List.mem_cons,List.not_mem_nil,or_false,forall_eq_or_imp,forall_eq,decide_eq_true_eq]at ho
  obtain⟨o1,o2,o3⟩:=ho
  refine bE.len ⟨f156,by kernel_rfl,by kernel_rfl,by kernel_rfl⟩ fun hlen=> ?_
  simp only[List.mem_cons,List.not_mem_nil,or_false,forall_eq_or_imp,forall_eq,AV.lenOk,aJ.lenOk,Con.size,Nat.mul_one]at hlen
  obtain⟨rfl,-⟩:=hlen
  exact a5 hct (fn:=f156) (lc:=[(0,⟨aA f156 0,yN nl cap v c 0 0 [],.normal,L4 v.length (eE v c)⟩)]) (fuel:=100) (p:=[]) (o:=⟨_,_,true,[yN nl cap v c 0 0 []=yN nl cap v c 0 0 []]⟩)
   (by kernel_rfl) (by kernel_rfl) (by kernel_rfl) rfl (by simp) (fun cc hc=>aF.cons (c:=cc) (by cases hc;kernel_rfl) (by cases hc;exact a5W hct nl cap v c o1 o2 o3) aF.nil)
 ·cases he
end
section
def fW (v:List Int):Nat→Nat→Option Nat
 |0,_=>none
 |k+1,i=>if v.getD i 0=0 then fW v k (i+1)else some i
def kK (v:List Int):Option Nat:=fW v v.length 0
def bD (v:List Int):Int:=match kK v with|some j=>(j:Int)|none=> -1
noncomputable abbrev f154:=Tryz.f192
noncomputable def r6 (nl:Option Bool) (cap:Option Nat) (v:List Int) (i:Int):St:=
 bA f154.ntmps [(0,.c (.view nl (.ints .i64 v) v.length 1 cap)),(3,.c (.int .i64 i))] []
noncomputable def Q0:St:=bA f154.ntmps [] []
noncomputable def Q3 (i:Int):St:=bA f154.ntmps [(2,.c (.int .i64 i))] []
section
variable (ct : CT) (nl : Option Bool) (cap : Option Nat) (v : List Int) (i : Int)
theorem SQ:aH 0 (aA f154 0) (aD f154 0) (aK tt ct [] 0 100 (a6 0 (a7 f154)) (r6 nl cap v i) [(0,true),(0,true)])=
  some (.ret,(decide (i<v.length)&&(decide (0≤i)&&(decide (i<v.length)&&(decide (i.toNat<v.length)&&(v.getD i.toNat 0 !=0&&true))))),[],Q3 i):=by kernel_rfl
theorem SR:aH 0 (aA f154 0) (aD f154 0) (aK tt ct [] 0 100 (a6 0 (a7 f154)) (r6 nl cap v i) [(0,true),(0,false)])=
  some (.normal,(decide (i<v.length)&&(decide (0≤i)&&(decide (i<v.length)&&(decide (i.toNat<v.length)&&(!(v.getD i.toNat 0 !=0)&&true))))),[],r6 nl cap v (IntKind.i64.wrap (i+1))):=by kernel_rfl
theorem SS:aH 0 (aA f154 0) (aD f154 0) (aK tt ct [] 0 100 (a6 0 (a7 f154)) (r6 nl cap v i) [(0,false)])=
  some (.exit 0,(!decide (i<v.length)&&true),[],Q0):=by kernel_rfl
end
def r9:Option Nat→Ex
 |some _=> .ret
 |none=> .normal
noncomputable def Y7:Option Nat→St
 |some j=>Q3 j
 |none=>Q0
theorem a5V {ct:CT} (hct:bN Tryz.prog ct) (nl:Option Bool) (cap:Option Nat) (v:List Int) (hl:v.length≤274877906944):
  aW Tryz.prog 0 (.block 0 (.loop (a6 0 (a7 f154)))) (r6 nl cap v 0) fun e t=>e=r9 (kK v)∧t=Y7 (kK v):=by
 refine aW.roundsR hT hct bM (m:=0) (id:=0) (body:=a6 0 (a7 f154)) (α:=Nat)
  (fun i=>i≤v.length∧fW v (v.length-i) i=kK v) (fun i=>r6 nl cap v i) (fun i=>v.length-i) (aA f154 0) (aD f154 0)
  (fun _=>r9 (kK v)) (fun _=>Y7 (kK v)) (fun _=>[]) (fun _ _=>aF.nil) (fun i hx=> ?_) 0 ⟨by simp,rfl⟩
 obtain⟨h1,h3⟩:=hx
 by_cases hi:i<v.length
 ·have hk:v.length-i=(v.length-(i+1))+1:=by omega
  rw[hk]at h3
  simp only[fW]at h3
  by_cases hz:v.getD i 0=0
  ·rw[if_pos hz]at h3
   refine⟨_,_,_,_,_,_,SR ct nl cap v i, ?_,by simp,.inl ⟨rfl,i+1,⟨by omega,h3⟩,by omega, ?_,rfl,rfl⟩⟩
   ·simp[-List.getD_eq_getElem?_getD,hi,hz]
   ·rw[aE (by omega) (by omega)];simp
  ·rw[if_neg hz]at h3
   refine⟨_,_,_,_,_,_,SQ ct nl cap v i, ?_,by simp,.inr (.inr ⟨by simp,by simp, ?_, ?_⟩)⟩
   ·simp[-List.getD_eq_getElem?_getD,hi,hz]
   ·rw[←h3];rfl
   ·rw[←h3];rfl
 ·have hz:v.length-i=0:=by omega
  rw[hz]at h3
  simp only[fW]at h3
  exact⟨_,_,_,_,_,_,SS ct nl cap v i,by simp;omega,by simp,.inr (.inl ⟨rfl,by rw[←h3];rfl,by rw[←h3];rfl⟩)⟩
def BE:aQ:=fun args h=>
 match args,h with
 |[.c (.view nl (.ints .i64 v) len 1 cap)],[]=>some (.c (.int .i64 (bD v)),[],[decide (v.length≤274877906944)])
 |_,_=>none
theorem a7A {ct:CT} (hct:bN Tryz.prog ct):aS Tryz.prog 192 BE:=by
 intro args h res h' o he ho
 unfold BE at he
 split at he
 ·rename_i nl v len cap
  simp only[Option.some.injEq,Prod.mk.injEq]at he
  obtain⟨rfl,rfl,rfl⟩:=he
  have o1:v.length≤274877906944:=by simpa using ho
  refine bE.len ⟨f154,by kernel_rfl,by kernel_rfl,by kernel_rfl⟩ fun hlen=> ?_
  simp only[List.mem_cons,List.not_mem_nil,or_false,forall_eq,AV.lenOk,aJ.lenOk,Con.size,Nat.mul_one]at hlen
  subst hlen
  have g:=a5V hct nl cap v o1
  unfold bD
  cases hx:kK v with
  |none=>
   rw[hx]at g
   exact a5 hct (fn:=f154) (lc:=[(0,⟨aA f154 0,r6 nl cap v 0,.normal,Q0⟩)]) (fuel:=100) (p:=[]) (o:=⟨_,_,true,[r6 nl cap v 0=r6 nl cap v 0]⟩)
    (by kernel_rfl) (by kernel_rfl) (by kernel_rfl) rfl (by simp) (fun cc hc=>aF.cons (c:=cc) (by cases hc;kernel_rfl) (by cases hc;exact g) aF.nil)
  |some j=>
   rw[hx]at g
   exact a5 hct (fn:=f154) (lc:=[(0,⟨aA f154 0,r6 nl cap v 0,.ret,Q3 j⟩)]) (fuel:=100) (p:=[]) (o:=⟨_,_,true,[r6 nl cap v 0=r6 nl cap v 0]⟩)
    (by kernel_rfl) (by kernel_rfl) (by kernel_rfl) rfl (by simp) (fun cc hc=>aF.cons (c:=cc) (by cases hc;kernel_rfl) (by cases hc;exact g) aF.nil)
 ·cases he
end
section
def T6:List bF:=[⟨119,[],GA⟩,⟨218,[],GT⟩,⟨194,[],rJ⟩,⟨192,[],BE⟩]++T5
theorem e6:a8 Tryz.prog T6:=by
 refine a8.append ?_ e5
 intro e he
 simp only[List.mem_cons,List.not_mem_nil,or_false]at he
 rcases he with rfl|rfl|rfl|rfl
 ·exact a6B t5
 ·exact Y3 t5
 ·exact RF t5
 ·exact a7A t5
theorem t6:bN Tryz.prog (aB T6):=aP e6
def F7 (v:List Int):Nat→Nat→Bool
 |0,_=>true
 |k+1,i=>fok (v.getD i 0)&&F7 v k (i+1)
theorem E8 (v:List Int): ∀k i,k=v.length-i→F7 v k i=(v.drop i).all fok
 |0,i,h=>by
  rw[List.drop_eq_nil_of_le (by omega)];rfl
 |k+1,i,h=>by
  have hi:i<v.length:=by omega
  rw[List.drop_eq_getElem_cons hi]
  simp only[F7,List.all_cons]
  rw[E8 v k (i+1) (by omega),List.getD_eq_getElem?_getD,List.getElem?_eq_getElem hi];rfl
noncomputable abbrev f60:=Tryz.f61
noncomputable def I60 (nl:Option Bool) (cap:Option Nat) (v:List Int) (i:Int):St:=
 bA f60.ntmps [(0,.c (.view nl (.ints .i64 v) v.length 1 cap)),(3,.c (.int .i64 i))] []
noncomputable def X60 (nl:Option Bool) (cap:Option Nat) (v:List Int):St:=bA f60.ntmps [(0,.c (.view nl (.ints .i64 v) v.length 1 cap))] []
noncomputable def Y60 (nl:Option Bool) (cap:Option Nat) (v:List Int):St:=bA f60.ntmps [(0,.c (.view nl (.ints .i64 v) v.length 1 cap)),(2,.c (.bool false))] []
section
variable (nl : Option Bool) (cap : Option Nat) (v : List Int) (i : Int)
theorem ZL:aH 0 (aA f60 0) (aD f60 0) (aK tt (aB T6) [] 0 100 (a6 0 (a7 f60)) (I60 nl cap v i) [(0,true),(0,true)])=
  some (.ret,(decide (i<v.length)&&(decide (0≤i)&&(decide (i<v.length)&&(decide (i.toNat<v.length)&&(!fok (v.getD i.toNat 0)&&true))))),[],Y60 nl cap v):=by kernel_rfl
theorem ZM:aH 0 (aA f60 0) (aD f60 0) (aK tt (aB T6) [] 0 100 (a6 0 (a7 f60)) (I60 nl cap v i) [(0,true),(0,false)])=
  some (.normal,(decide (i<v.length)&&(decide (0≤i)&&(decide (i<v.length)&&(decide (i.toNat<v.length)&&(!!fok (v.getD i.toNat 0)&&true))))),[],I60 nl cap v (IntKind.i64.wrap (i+1))):=by kernel_rfl
theorem ZN:aH 0 (aA f60 0) (aD f60 0) (aK tt (aB T6) [] 0 100 (a6 0 (a7 f60)) (I60 nl cap v i) [(0,false)])=
  some (.exit 0,(!decide (i<v.length)&&true),[],X60 nl cap v):=by kernel_rfl
end
def e60:Bool→Ex
 |true=> .normal
 |false=> .ret
noncomputable def p60 (nl:Option Bool) (cap:Option Nat) (v:List Int):Bool→St
 |true=>X60 nl cap v
 |false=>Y60 nl cap v
theorem l60 (nl:Option Bool) (cap:Option Nat) (v:List Int) (hl:v.length≤274877906944):
  aW Tryz.prog 0 (.block 0 (.loop (a6 0 (a7 f60)))) (I60 nl cap v 0) fun e t=>e=e60 (a9 v)∧t=p60 nl cap v (a9 v):=by
 refine aW.roundsR hT t6 bM (m:=0) (id:=0) (body:=a6 0 (a7 f60)) (α:=Nat)
  (fun i=>i≤v.length∧F7 v (v.length-i) i=a9 v) (fun i=>I60 nl cap v i) (fun i=>v.length-i) (aA f60 0) (aD f60 0)
  (fun _=>e60 (a9 v)) (fun _=>p60 nl cap v (a9 v)) (fun _=>[]) (fun _ _=>aF.nil) (fun i hx=> ?_) 0 ⟨by simp,by rw[E8 v _ _ (by simp)];rfl⟩
 obtain⟨h1,h3⟩:=hx
 by_cases hi:i<v.length
 ·have hk:v.length-i=(v.length-(i+1))+1:=by omega
  rw[hk]at h3
  simp only[F7]at h3
  cases hz:fok (v.getD i 0)with
  |true=>
   rw[hz,Bool.true_and]at h3
   refine⟨_,_,_,_,_,_,ZM nl cap v i, ?_,by simp,.inl ⟨rfl,i+1,⟨by omega,h3⟩,by omega, ?_,rfl,rfl⟩⟩
   ·simp[-List.getD_eq_getElem?_getD,hi,hz]
   ·rw[aE (by omega) (by omega)];simp
  |false=>
   rw[hz,Bool.false_and]at h3
   refine⟨_,_,_,_,_,_,ZL nl cap v i, ?_,by simp,.inr (.inr ⟨by simp,by simp, ?_, ?_⟩)⟩
   ·simp[-List.getD_eq_getElem?_getD,hi,hz]
   ·rw[←h3];rfl
   ·rw[←h3];rfl
 ·have hz:v.length-i=0:=by omega
  rw[hz]at h3
  simp only[F7]at h3
  exact⟨_,_,_,_,_,_,ZN nl cap v i,by simp;omega,by simp,.inr (.inl ⟨rfl,by rw[←h3];rfl,by rw[←h3];rfl⟩)⟩
def vok (v:List Int):Bool:=a9 v&&decide ((v.length:Int)=4)
def GX:aQ:=fun args h=>
 match args,h with
 |[.c (.view nl (.ints .i64 v) len 1 cap)],[]=>some (.c (.bool (vok v)),[],[decide (v.length≤274877906944)])
 |_,_=>none
theorem m60:aS Tryz.prog 61 GX:=by
 intro args h res h' o he ho
 unfold GX at he
 split at he
 ·rename_i nl v len cap
  simp only[Option.some.injEq,Prod.mk.injEq]at he
  obtain⟨rfl,rfl,rfl⟩:=he
  have o1:v.length≤274877906944:=by simpa using ho
  refine bE.len ⟨f60,by kernel_rfl,by kernel_rfl,by kernel_rfl⟩ fun hlen=> ?_
  simp only[List.mem_cons,List.not_mem_nil,or_false,forall_eq,AV.lenOk,aJ.lenOk,Con.size,Nat.mul_one]at hlen
  subst hlen
  have g:=l60 nl cap v o1
  unfold vok
  cases hx:a9 v with
  |true=>
   rw[hx]at g
   have hb:(true&&decide ((v.length:Int)=4))=((v.length:Int)==4):=by
    rw[Bool.true_and];by_cases h:(v.length:Int)=4<;>simp[h]
   rw[hb]
   exact a5 t6 (fn:=f60) (lc:=[(0,⟨aA f60 0,I60 nl cap v 0,.normal,X60 nl cap v⟩)]) (fuel:=100) (p:=[]) (o:=⟨_,_,true,[I60 nl cap v 0=I60 nl cap v 0]⟩)
    (by kernel_rfl) (by kernel_rfl) (by kernel_rfl) rfl (by simp) (fun cc hc=>aF.cons (c:=cc) (by cases hc;kernel_rfl) (by cases hc;exact g) aF.nil)
  |false=>
   rw[hx]at g
   exact a5 t6 (fn:=f60) (lc:=[(0,⟨aA f60 0,I60 nl cap v 0,.ret,Y60 nl cap v⟩)]) (fuel:=100) (p:=[]) (o:=⟨_,_,true,[I60 nl cap v 0=I60 nl cap v 0]⟩)
    (by kernel_rfl) (by kernel_rfl) (by kernel_rfl) rfl (by simp) (fun cc hc=>aF.cons (c:=cc) (by cases hc;kernel_rfl) (by cases hc;exact g) aF.nil)
 ·cases he
end
section
def BJ:aQ:=fun args h=>
 match args,h with
 |[.c (.int .i64 n)],[]=>some (.c (.bool (!fok n)),[],[])
 |_,_=>none
theorem a72:aS Tryz.prog 168 BJ:=by
 intro args h res h' o he ho
 unfold BJ at he
 split at he
 ·rename_i n
  simp only[Option.some.injEq,Prod.mk.injEq]at he
  obtain⟨rfl,rfl,rfl⟩:=he
  have e:aG tt (aB T6) [] 100 Tryz.f168 [.c (.int .i64 n)] [] []=some ⟨.c (.bool (!fok n)),[],true,[]⟩:=by kernel_rfl
  exact a5 t6 (by kernel_rfl) (by kernel_rfl) e rfl (by simp) (fun c _=>aF.nil)
 ·cases he
def T7:List bF:=[⟨61,[],GX⟩,⟨168,[],BJ⟩]++T6
theorem e7:a8 Tryz.prog T7:=by
 refine a8.append ?_ e6
 intro e he
 simp only[List.mem_cons,List.not_mem_nil,or_false]at he
 rcases he with rfl|rfl
 ·exact m60
 ·exact a72
theorem t7:bN Tryz.prog (aB T7):=aP e7
def dE (q:Int→Bool) (v:List Int):Nat→Nat→Option Nat
 |0,_=>none
 |k+1,i=>bif q (v.getD i 0)then some i else dE q v k (i+1)
def dV (q:Int→Bool) (v:List Int):Option Nat:=dE q v v.length 0
def cV (q:Int→Bool) (v:List Int):Int:=match dV q v with|some j=>(j:Int)|none=> -1
noncomputable abbrev iF:=Tryz.f176
noncomputable def r5 (nl:Option Bool) (cap:Option Nat) (v:List Int) (i:Int):St:=
 bA iF.ntmps [(0,.c (.view nl (.ints .i64 v) v.length 1 cap)),(1,.c (.fn 168 [])),(7,.c (.int .i64 v.length)),(8,.c (.int .i64 i))] []
noncomputable def PZ:St:=bA iF.ntmps [] []
noncomputable def Q2 (i:Int):St:=bA iF.ntmps [(4,.c (.int .i64 i))] []
section
variable (nl : Option Bool) (cap : Option Nat) (v : List Int) (i : Int)
theorem SL:aH 0 (aA iF 0) (aD iF 0) (aK tt (aB T7) [] 0 100 (a6 0 (a7 iF)) (r5 nl cap v i) [(0,true),(0,true)])=
  some (.ret,(decide (i<v.length)&&(decide (0≤i)&&(decide (i<v.length)&&(decide (i.toNat<v.length)&&(!fok (v.getD i.toNat 0)&&true))))),[],Q2 i):=by kernel_rfl
theorem SM:aH 0 (aA iF 0) (aD iF 0) (aK tt (aB T7) [] 0 100 (a6 0 (a7 iF)) (r5 nl cap v i) [(0,true),(0,false)])=
  some (.normal,(decide (i<v.length)&&(decide (0≤i)&&(decide (i<v.length)&&(decide (i.toNat<v.length)&&(!!fok (v.getD i.toNat 0)&&true))))),[],r5 nl cap v (IntKind.i64.wrap (i+1))):=by kernel_rfl
theorem SN:aH 0 (aA iF 0) (aD iF 0) (aK tt (aB T7) [] 0 100 (a6 0 (a7 iF)) (r5 nl cap v i) [(0,false)])=
  some (.exit 0,(!decide (i<v.length)&&true),[],PZ):=by kernel_rfl
end
noncomputable def Y6:Option Nat→St
 |some j=>Q2 j
 |none=>PZ
theorem a5T (nl:Option Bool) (cap:Option Nat) (v:List Int) (hl:v.length≤274877906944):
  aW Tryz.prog 0 (.block 0 (.loop (a6 0 (a7 iF)))) (r5 nl cap v 0) fun e t=>e=r9 (dV (fun x=> !fok x) v)∧t=Y6 (dV (fun x=> !fok x) v):=by
 refine aW.roundsR hT t7 bM (m:=0) (id:=0) (body:=a6 0 (a7 iF)) (α:=Nat)
  (fun i=>i≤v.length∧dE (fun x=> !fok x) v (v.length-i) i=dV (fun x=> !fok x) v) (fun i=>r5 nl cap v i) (fun i=>v.length-i) (aA iF 0) (aD iF 0)
  (fun _=>r9 (dV (fun x=> !fok x) v)) (fun _=>Y6 (dV (fun x=> !fok x) v)) (fun _=>[]) (fun _ _=>aF.nil) (fun i hx=> ?_) 0 ⟨by simp,rfl⟩
 obtain⟨h1,h3⟩:=hx
 by_cases hi:i<v.length
 ·have hk:v.length-i=(v.length-(i+1))+1:=by omega
  rw[hk]at h3
  simp only[dE]at h3
  cases hz:fok (v.getD i 0)with
  |true=>
   rw[hz]at h3
   refine⟨_,_,_,_,_,_,SM nl cap v i, ?_,by simp,.inl ⟨rfl,i+1,⟨by omega,by simpa using h3⟩,by omega, ?_,rfl,rfl⟩⟩
   ·simp[-List.getD_eq_getElem?_getD,hi,hz]
   ·rw[aE (by omega) (by omega)];simp
  |false=>
   rw[hz]at h3
   simp only[Bool.not_false,cond_true]at h3
   refine⟨_,_,_,_,_,_,SL nl cap v i, ?_,by simp,.inr (.inr ⟨by simp,by simp, ?_, ?_⟩)⟩
   ·simp[-List.getD_eq_getElem?_getD,hi,hz]
   ·rw[←h3];rfl
   ·rw[←h3];rfl
 ·have hz:v.length-i=0:=by omega
  rw[hz]at h3
  simp only[dE]at h3
  exact⟨_,_,_,_,_,_,SN nl cap v i,by simp;omega,by simp,.inr (.inl ⟨rfl,by rw[←h3];rfl,by rw[←h3];rfl⟩)⟩
def wQ:aQ:=fun args h=>
 match args,h with
 |[.c (.view nl (.ints .i64 v) len 1 cap),.c (.fn 168 [])],[]=>some (.c (.int .i64 (cV (fun x=> !fok x) v)),[],[decide (v.length≤274877906944)])
 |_,_=>none
theorem a73:aS Tryz.prog 176 wQ:=by
 intro args h res h' o he ho
 unfold wQ at he
 split at he
 ·rename_i nl v len cap
  simp only[Option.some.injEq,Prod.mk.injEq]at he
  obtain⟨rfl,rfl,rfl⟩:=he
  have o1:v.length≤274877906944:=by simpa using ho
  refine bE.len ⟨iF,by kernel_rfl,by kernel_rfl,by kernel_rfl⟩ fun hlen=> ?_
  simp only[List.mem_cons,List.not_mem_nil,or_false,forall_eq_or_imp,forall_eq,AV.lenOk,aJ.lenOk,Con.size,Nat.mul_one]at hlen
  obtain⟨rfl,-⟩:=hlen
  have g:=a5T nl cap v o1
  unfold cV
  cases hx:dV (fun x=> !fok x) v with
  |none=>
   rw[hx]at g
   exact a5 t7 (fn:=iF) (lc:=[(0,⟨aA iF 0,r5 nl cap v 0,.normal,PZ⟩)]) (fuel:=100) (p:=[]) (o:=⟨_,_,true,[r5 nl cap v 0=r5 nl cap v 0]⟩)
    (by kernel_rfl) (by kernel_rfl) (by kernel_rfl) rfl (by simp) (fun cc hc=>aF.cons (c:=cc) (by cases hc;kernel_rfl) (by cases hc;exact g) aF.nil)
  |some j=>
   rw[hx]at g
   exact a5 t7 (fn:=iF) (lc:=[(0,⟨aA iF 0,r5 nl cap v 0,.ret,Q2 j⟩)]) (fuel:=100) (p:=[]) (o:=⟨_,_,true,[r5 nl cap v 0=r5 nl cap v 0]⟩)
    (by kernel_rfl) (by kernel_rfl) (by kernel_rfl) rfl (by simp) (fun cc hc=>aF.cons (c:=cc) (by cases hc;kernel_rfl) (by cases hc;exact g) aF.nil)
 ·cases he
end
section
def T8:List bF:=[⟨176,[],wQ⟩]++T7
theorem e8:a8 Tryz.prog T8:=by
 refine a8.append ?_ e7
 intro e he
 simp only[List.mem_cons,List.not_mem_nil,or_false]at he
 subst he;exact a73
theorem t8:bN Tryz.prog (aB T8):=aP e8
theorem zO (q:Int→Bool) (v:List Int): ∀k i,k=v.length-i→(match dE q v k i with|some j=>true|none=>false)=(v.drop i).any q
 |0,i,h=>by rw[List.drop_eq_nil_of_le (by omega)];rfl
 |k+1,i,h=>by
  have hi:i<v.length:=by omega
  rw[List.drop_eq_getElem_cons hi]
  simp only[dE,List.any_cons]
  have e:v.getD i 0=v[i]:=by rw[List.getD_eq_getElem?_getD,List.getElem?_eq_getElem hi];rfl
  rw[e]
  cases q v[i]with
  |true=>rfl
  |false=>rw[cond_false,zO q v k (i+1) (by omega),Bool.false_or]
theorem M2 (v:List Int):decide (cV (fun x=> !fok x) v≥0)= !a9 v:=by
 have h:=zO (fun x=> !fok x) v v.length 0 (by simp)
 have e:(v.drop 0).any (fun x=> !fok x)= !a9 v:=by
  rw[List.drop_zero,a9,List.any_eq_not_all_not];simp
 rw[e]at h
 rw[←h]
 unfold cV dV
 cases dE (fun x=> !fok x) v v.length 0<;>simp
def rZ:aQ:=fun args h=>
 match args,h with
 |[.c (.view nl (.ints .i64 v) len 1 cap),.c (.fn 168 [])],[]=>some (.c (.bool (!a9 v)),[],[decide (v.length≤274877906944)])
 |_,_=>none
theorem a6L:aS Tryz.prog 133 rZ:=by
 intro args h res h' o he ho
 unfold rZ at he
 split at he
 ·rename_i nl v len cap
  simp only[Option.some.injEq,Prod.mk.injEq]at he
  obtain⟨rfl,rfl,rfl⟩:=he
  have e:aG tt (aB T8) [] 100 Tryz.f133 [.c (.view nl (.ints .i64 v) len 1 cap),.c (.fn 168 [])] [] []=
    some ⟨.c (.bool (decide (cV (fun x=> !fok x) v≥0))),[],decide (v.length≤274877906944)&&true,[]⟩:=by kernel_rfl
  rw[M2]at e
  exact a5 t8 (by kernel_rfl) (by kernel_rfl) e (by simpa using ho) (by simp) (fun c _=>aF.nil)
 ·cases he
def T9:List bF:=[⟨133,[],rZ⟩]++T8
theorem e9:a8 Tryz.prog T9:=by
 refine a8.append ?_ e8
 intro e he
 simp only[List.mem_cons,List.not_mem_nil,or_false]at he
 subst he;exact a6L
theorem t9:bN Tryz.prog (aB T9):=aP e9
def aC (v:List Int) (n:Int):Bool:=a9 v&&((v.length:Int)==n)
def GB:aQ:=fun args h=>
 match args,h with
 |[.c (.view nl (.ints .i64 v) len 1 cap),.c (.int .i64 n)],[]=>some (.c (.bool (aC v n)),[],[decide (v.length≤274877906944)])
 |_,_=>none
theorem a6I:aS Tryz.prog 124 GB:=by
 intro args h res h' o he ho
 unfold GB at he
 split at he
 ·rename_i nl v len cap n
  simp only[Option.some.injEq,Prod.mk.injEq]at he
  obtain⟨rfl,rfl,rfl⟩:=he
  have o1:v.length≤274877906944:=by simpa using ho
  refine bE.len ⟨Tryz.f124,by kernel_rfl,by kernel_rfl,by kernel_rfl⟩ fun hlen=> ?_
  simp only[List.mem_cons,List.not_mem_nil,or_false,forall_eq_or_imp,forall_eq,AV.lenOk,aJ.lenOk,Con.size,Nat.mul_one]at hlen
  obtain⟨rfl,-⟩:=hlen
  cases hc:((v.length:Int)==n)with
  |true=>
   have e:aG tt (aB T9) [] 100 Tryz.f124 [.c (.view nl (.ints .i64 v) v.length 1 cap),.c (.int .i64 n)] [] [(0,true)]=
     some ⟨.c (.bool (bif (v.length:Int)==n then !!a9 v else false)),[],((v.length:Int)==n)&&(((v.length:Int)==n)&&(decide (v.length≤274877906944)&&(((v.length:Int)==n)&&true))),[]⟩:=by kernel_rfl
   have hr:(bif (v.length:Int)==n then !!a9 v else false)=aC v n:=by simp[aC,hc]
   rw[hr]at e
   exact a5 t9 (by kernel_rfl) (by kernel_rfl) e (by simp[hc,o1]) (by simp) (fun c _=>aF.nil)
  |false=>
   have e:aG tt (aB T9) [] 100 Tryz.f124 [.c (.view nl (.ints .i64 v) v.length 1 cap),.c (.int .i64 n)] [] [(0,false)]=
     some ⟨.c (.bool false),[], !((v.length:Int)==n)&&(!((v.length:Int)==n)&&(!((v.length:Int)==n)&&(!((v.length:Int)==n)&&true))),[]⟩:=by kernel_rfl
   have hr:false=aC v n:=by simp[aC,hc]
   rw[hr]at e
   exact a5 t9 (by kernel_rfl) (by kernel_rfl) e (by simp[hc]) (by simp) (fun c _=>aF.nil)
 ·cases he
end
section
def T10:List bF:=[⟨124,[],GB⟩]++T9
theorem e10:a8 Tryz.prog T10:=by
 refine a8.append ?_ e9
 intro e he
 simp only[List.mem_cons,List.not_mem_nil,or_false]at he
 subst he;exact a6I
theorem t10:bN Tryz.prog (aB T10):=aP e10
def ifI (b:Bool) (n:Int):Int:=bif b then n else 0
def U1 (v:List Int) (b:Bool):AV:=
 .tup [.agg [.int .i64 (ifI b (v.getD 0 0)),.int .i64 (ifI b (v.getD 1 0)),.int .i64 (ifI b (v.getD 2 0)),.int .i64 (ifI b (v.getD 3 0))],.c (.bool b)]
def GW:aQ:=fun args h=>
 match args,h with
 |[.c (.view nl (.ints .i64 v) len 1 cap)],[]=>some (U1 v (aC v 4),[],[decide (v.length≤274877906944)])
 |_,_=>none
theorem a5F {v:List Int} (h:aC v 4=true): ∃a b c d,v=[a,b,c,d]:=by
 simp only[aC,Bool.and_eq_true,beq_iff_eq]at h
 have h4:v.length=4:=by omega
 match v,h4 with
 |[a,b,c,d],_=>exact⟨a,b,c,d,rfl⟩
theorem m67:aS Tryz.prog 74 GW:=by
 intro args h res h' o he ho
 unfold GW at he
 split at he
 ·rename_i nl v len cap
  simp only[Option.some.injEq,Prod.mk.injEq]at he
  obtain⟨rfl,rfl,rfl⟩:=he
  have o1:v.length≤274877906944:=by simpa using ho
  refine bE.len ⟨Tryz.f74,by kernel_rfl,by kernel_rfl,by kernel_rfl⟩ fun hlen=> ?_
  simp only[List.mem_cons,List.not_mem_nil,or_false,forall_eq,AV.lenOk,aJ.lenOk,Con.size,Nat.mul_one]at hlen
  subst hlen
  cases hc:aC v 4 with
  |true=>
   obtain⟨a,b,c,d,rfl⟩:=a5F hc
   have e:aG tt (aB T10) [] 100 Tryz.f74 [.c (.view nl (.ints .i64 [a,b,c,d]) [a,b,c,d].length 1 cap)] [] [(0,false)]=
     some ⟨U1 [a,b,c,d] true,[], !!aC [a,b,c,d] 4&&true,[]⟩:=by kernel_rfl
   exact a5 t10 (by kernel_rfl) (by kernel_rfl) e (by simp[hc]) (by simp) (fun c _=>aF.nil)
  |false=>
   have e:aG tt (aB T10) [] 100 Tryz.f74 [.c (.view nl (.ints .i64 v) v.length 1 cap)] [] [(0,true)]=
     some ⟨U1 v false,[],decide (v.length≤274877906944)&&(!aC v 4&&true),[]⟩:=by kernel_rfl
   exact a5 t10 (by kernel_rfl) (by kernel_rfl) e (by simp[hc,o1]) (by simp) (fun c _=>aF.nil)
 ·cases he
def xC:aQ:=fun args h=>
 match args,h with
 |[.c (.view nl (.ints .i64 v) len 1 cap)],[]=>some (.c (.bool (aC v 4)),[],[decide (v.length≤274877906944)])
 |_,_=>none
theorem m91:aS Tryz.prog 68 xC:=by
 intro args h res h' o he ho
 unfold xC at he
 split at he
 ·rename_i nl v len cap
  simp only[Option.some.injEq,Prod.mk.injEq]at he
  obtain⟨rfl,rfl,rfl⟩:=he
  have e:aG tt (aB T10) [] 100 Tryz.f68 [.c (.view nl (.ints .i64 v) len 1 cap)] [] []=some ⟨.c (.bool (aC v 4)),[],decide (v.length≤274877906944)&&true,[]⟩:=by kernel_rfl
  exact a5 t10 (by kernel_rfl) (by kernel_rfl) e (by simpa using ho) (by simp) (fun c _=>aF.nil)
 ·cases he
end
section
def T11:List bF:=[⟨74,[],GW⟩,⟨68,[],xC⟩]++T10
theorem e11:a8 Tryz.prog T11:=by
 refine a8.append ?_ e10
 intro e he
 simp only[List.mem_cons,List.not_mem_nil,or_false]at he
 rcases he with rfl|rfl
 ·exact m67
 ·exact m91
theorem t11:bN Tryz.prog (aB T11):=aP e11
def c8 (k:Int) (v:List Int) (j:Int):Int:=
 CF ((aL k j).getD 0 0) ((aL k j).getD 1 0) ((aL k j).getD 2 0) ((aL k j).getD 3 0) (v.getD 0 0) (v.getD 1 0) (v.getD 2 0) (v.getD 3 0)
def fJ (k:Int) (v:List Int):List Int:=[c8 k v 0,c8 k v 1,c8 k v 2,c8 k v 3,c8 k v 4,c8 k v 5,c8 k v 6,c8 k v 7]
def GC:aQ:=fun args h=>
 match args,h with
 |[.c (.int .i64 k),.agg [.int .i64 a,.int .i64 b,.int .i64 c,.int .i64 d]],[]=>some (.c (.sl 0 0 8 1 none),[.live (.ints .i64 (fJ k [a,b,c,d]))],[bet k 1 2,fok a,fok b,fok c,fok d])
 |_,_=>none
theorem two {k:Int} (h:bet k 1 2=true):k=1∨k=2:=by
 simp only[bet,Bool.and_eq_true,decide_eq_true_eq]at h;omega
theorem m74:aS Tryz.prog 76 GC:=by
 intro args h res h' o he ho
 unfold GC at he
 split at he
 ·rename_i k a b c d
  simp only[Option.some.injEq,Prod.mk.injEq]at he
  obtain⟨rfl,rfl,rfl⟩:=he
  simp only[List.mem_cons,List.not_mem_nil,or_false,forall_eq_or_imp,forall_eq]at ho
  rcases two ho.1 with rfl|rfl
  ·skip
   have e:aG tt (aB T11) [] 1000 Tryz.f76 [.c (.int .i64 1),.agg [.int .i64 a,.int .i64 b,.int .i64 c,.int .i64 d]] [] []=
     some ⟨.c (.sl 0 0 8 1 none),[.live (.ints .i64 (fJ 1 [a,b,c,d]))],(fok a&&(fok b&&(fok c&&(fok d&&(fok a&&(fok b&&(fok c&&(fok d&&(fok a&&(fok b&&(fok c&&(fok d&&(fok a&&(fok b&&(fok c&&(fok d&&(fok a&&(fok b&&(fok c&&(fok d&&(fok a&&(fok b&&(fok c&&(fok d&&(fok a&&(fok b&&(fok c&&(fok d&&(fok a&&(fok b&&(fok c&&(fok d&&true)))))))))))))))))))))))))))))))),[]⟩:=by kernel_rfl
   exact a5 t11 (by kernel_rfl) (by kernel_rfl) e (by simp[ho]) (by simp) (fun c _=>aF.nil)
  ·skip
   have e:aG tt (aB T11) [] 1000 Tryz.f76 [.c (.int .i64 2),.agg [.int .i64 a,.int .i64 b,.int .i64 c,.int .i64 d]] [] []=
     some ⟨.c (.sl 0 0 8 1 none),[.live (.ints .i64 (fJ 2 [a,b,c,d]))],(fok a&&(fok b&&(fok c&&(fok d&&(fok a&&(fok b&&(fok c&&(fok d&&(fok a&&(fok b&&(fok c&&(fok d&&(fok a&&(fok b&&(fok c&&(fok d&&(fok a&&(fok b&&(fok c&&(fok d&&(fok a&&(fok b&&(fok c&&(fok d&&(fok a&&(fok b&&(fok c&&(fok d&&(fok a&&(fok b&&(fok c&&(fok d&&true)))))))))))))))))))))))))))))))),[]⟩:=by kernel_rfl
   exact a5 t11 (by kernel_rfl) (by kernel_rfl) e (by simp[ho]) (by simp) (fun c _=>aF.nil)
 ·cases he
end
end Go.Proofs.YthapjdpkelihiaaGreat.Am
