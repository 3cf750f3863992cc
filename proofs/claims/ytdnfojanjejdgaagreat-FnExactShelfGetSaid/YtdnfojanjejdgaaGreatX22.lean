/- DERIVED. Part 22 of the proof: Am44, B2, C122, C123, C124, P31, C125. No statement of the program is proved here. -/
import Derived.Test.YtdnfojanjejdgaaGreatX21
import Derived.Sort.Walk0
set_option linter.unusedSimpArgs false
set_option linter.unusedVariables false
set_option linter.unusedSectionVars false
set_option linter.defProp false
namespace Go.Proofs.YtdnfojanjejdgaaGreat.Am
section
def noW (d:Nat):List Oper→Bool
 |[]=>true
 |o::r=>(match o.dst with|some e=> !(Nat.beq e d)|none=>true)&&noW d r
def gOk (ops:Array Oper) (s:St) (l:List Oper) (j:Nat):Bool:=
 match(ops[j]?).bind (·.dst),vP ops s.tmps j with
 |some d,.c (.bool _)=>noW d l
 |_,_=>false
def aDQ (o:Oper) (kd:List Nat):Bool:=
 match o.guard with
 |some (j,_)=>kd.elem j
 |none=>false
def aEI (ops:Array Oper) (s:St) (l:List Oper) (o:Oper) (kd:List Nat):List Nat:=
 match o.guard with
 |some (j,_)=>bif gOk ops s l j then j::kd else kd
 |none=>kd
def aCB (tt:Tab) (ct:CT) (ops:Array Oper):List Oper→(i base:Nat)→St→AE→List Nat→gJ→Option (List Rec×St×gJ×List Bool)
 |[],_,_,s,_,_,p=>some ([],s,p,[])
 |o::rest,i,base,s,kn,kd,p=>
  match ZW ops s o kn p with
  |none=>none
  |some (dec,kn,p)=>
   match iF tt ct ops s o base dec with
   |none=>none
   |some (fp,e)=>
    bif !(e.sets.all fun x=>Nat.blt x.1 (base+slots o.op))then none else
    match aCB tt ct ops rest (i+1) (base+slots o.op) (dK s o.dst e) kn (bif aDQ o kd then kd else aEI ops s (o::rest) o kd) p with
    |none=>none
    |some (rs,s',p',b)=>some ({i,o,base,dec,fp,eff:=e}::rs,s',p',(bif aDQ o kd then e.obl.tail else e.obl)++b)
def aFB (ops:Array Oper) (l:List Oper) (s:St) (kn:AE) (kd:List Nat):Prop:=
 ∀j,kd.elem j=true→ ∃d v,(ops[j]?).bind (·.dst)=some d∧noW d l=true∧vP ops s.tmps j=.c (.bool v)∧known? kn j=some v
theorem aEC {d:Nat} {o:Oper} {r:List Oper} (h:noW d (o::r)=true):o.dst≠some d∧noW d r=true:=by
 simp only[noW,Bool.and_eq_true,rpS]at h
 refine⟨fun e=> ?_,h.2⟩
 rw[e]at h
 simp at h
theorem aD8 {ops:Array Oper} {s:St} {o:Oper} {e:Eff} {j d:Nat} (hd:(ops[j]?).bind (·.dst)=some d) (h:o.dst≠some d):vP ops (dK s o.dst e).tmps j=vP ops s.tmps j:=by
 unfold vP
 rw[hd]
 show(dK s o.dst e).tmps.getD d _=s.tmps.getD d _
 unfold dK rA
 cases hx:o.dst with
 |none=>rfl
 |some x=>
  have:x≠d:=fun e'=>h (by rw[hx,e'])
  simp only
  rw[List.getD_eq_getElem?_getD,List.getElem?_set_ne this,←List.getD_eq_getElem?_getD]
theorem aD9 {kn:AE} {i j:Nat} {b v:Bool} (h:known? kn j=some v) (hi:known? kn i=none):known? ((i,b)::kn) j=some v:=by
 simp only[known?]
 cases e:i==j with
 |false=>exact h
 |true=>rw[beq_iff_eq]at e;subst e;rw[hi]at h;cases h
theorem aCF {ops:Array Oper} {s:St} {o:Oper} {kn kn':AE} {p p':gJ} {dec:Option Bool} (h:ZW ops s o kn p=some (dec,kn',p')): ∀j v,known? kn j=some v→known? kn' j=some v:=by
 unfold ZW at h
 split at h
 ·simp only[Option.some.injEq,Prod.mk.injEq]at h;obtain⟨-,rfl,-⟩:=h;exact fun _ _ h=>h
 ·split at h
  ·simp only[Option.some.injEq,Prod.mk.injEq]at h;obtain⟨-,rfl,-⟩:=h;exact fun _ _ h=>h
  ·split at h
   ·simp only[Option.some.injEq,Prod.mk.injEq]at h;obtain⟨-,rfl,-⟩:=h;exact fun _ _ h=>h
   ·rename_i hk
    obtain⟨x,-,hx⟩:=Option.map_eq_some_iff.1 h
    simp only[Prod.mk.injEq]at hx
    obtain⟨-,rfl,-⟩:=hx
    exact fun j v h=>aD9 h hk
theorem aCI {ops:Array Oper} {s:St} {o:Oper} {kn kn':AE} {p p':gJ} {dec:Option Bool} (h:ZW ops s o kn p=some (dec,kn',p')) {j:Nat} {want v:Bool} (hg:o.guard=some (j,want)) (hv:vP ops s.tmps j=.c (.bool v)):
  ∃c,known? kn' j=some c∧dec=some (bif want then c else !c):=by
 unfold ZW at h
 rw[hg]at h
 simp only[hv]at h
 split at h
 ·rename_i b hk
  simp only[Option.some.injEq,Prod.mk.injEq]at h
  obtain⟨rfl,rfl,-⟩:=h
  exact⟨b,hk,rfl⟩
 ·obtain⟨x,-,hx⟩:=Option.map_eq_some_iff.1 h
  simp only[Prod.mk.injEq]at hx
  obtain⟨rfl,rfl,-⟩:=hx
  exact⟨x.1,by simp[known?],rfl⟩
theorem aCG {tt:Tab} {ct:CT} {ops:Array Oper} {s:St} {o:Oper} {base:Nat} {c:Bool} {fp:List Nat} {e:Eff} {j:Nat} {want v:Bool} (hg:o.guard=some (j,want)) (hv:vP ops s.tmps j=.c (.bool v))
  (h:iF tt ct ops s o base (some (bif want then c else !c))=some (fp,e)): ∃x r,e.obl=x::r∧(x=true↔v=c):=by
 unfold iF at h
 rw[hg]at h
 cases hd:(bif want then c else !c)with
 |true=>
  rw[hd]at h
  simp only[hv]at h
  obtain⟨e0,-,hx⟩:=Option.map_eq_some_iff.1 h
  simp only[Prod.mk.injEq]at hx
  obtain⟨-,rfl⟩:=hx
  refine⟨_,_,rfl, ?_⟩
  cases want<;>cases c<;>cases v<;>simp at hd⊢
 |false=>
  rw[hd]at h
  simp only[hv,Option.some.injEq,Prod.mk.injEq]at h
  obtain⟨-,rfl⟩:=h
  refine⟨_,_,rfl, ?_⟩
  cases want<;>cases c<;>cases v<;>simp at hd⊢
theorem aC6 {tt:Tab} {ct:CT} {ops:Array Oper}: ∀ {l:List Oper} {i base:Nat} {s s':St} {kn:AE} {kd:List Nat} {p p':gJ} {rs:List Rec} {b:List Bool},
  aCB tt ct ops l i base s kn kd p=some (rs,s',p',b)→(∀x∈b,x=true)→aFB ops l s kn kd→ ∃b',pI tt ct ops l i base s kn p=some (rs,s',p',b')∧ ∀x∈b',x=true
 |[],i,base,s,s',kn,kd,p,p',rs,b,h,hb,hk=>by
  simp only[aCB,Option.some.injEq,Prod.mk.injEq]at h
  obtain⟨rfl,rfl,rfl,rfl⟩:=h
  exact⟨[],rfl,hb⟩
 |o::rest,i,base,s,s',kn,kd,p,p',rs,b,h,hb,hk=>by
  simp only[aCB]at h
  cases hd:ZW ops s o kn p with
  |none=>rw[hd]at h;cases h
  |some x=>
   obtain⟨dec,kn',p1⟩:=x
   rw[hd]at h
   simp only at h
   cases hs:iF tt ct ops s o base dec with
   |none=>rw[hs]at h;cases h
   |some y=>
    obtain⟨fp,e⟩:=y
    rw[hs]at h
    simp only at h
    cases hc: !(e.sets.all fun x=>Nat.blt x.1 (base+slots o.op))with
    |true=>rw[hc,cond_true]at h;cases h
    |false=>
     rw[hc,cond_false]at h
     split at h
     ·cases h
     ·rename_i rs1 s1 p2 b1 hr
      simp only[Option.some.injEq,Prod.mk.injEq]at h
      obtain⟨rfl,rfl,rfl,rfl⟩:=h
      have he: ∀x∈e.obl,x=true:=by
       cases ht:aDQ o kd with
       |false=>rw[ht,cond_false]at hb;exact fun x hx=>hb x (List.mem_append_left _ hx)
       |true=>
        rw[ht,cond_true]at hb
        unfold aDQ at ht
        split at ht
        ·rename_i j want hg
         obtain⟨d,v,h1,h2,h3,h4⟩:=hk j ht
         obtain⟨c,g1,rfl⟩:=aCI hd hg h3
         obtain⟨x,r,e1,e2⟩:=aCG hg h3 hs
         rw[aCF hd j v h4]at g1
         rw[e1]at hb⊢
         intro z hz
         rcases List.mem_cons.1 hz with rfl|hz
         ·exact e2.2 (by injection g1)
         ·exact hb z (List.mem_append_left _ hz)
        ·cases ht
      have keep: ∀ {kd':List Nat},(∀j,kd'.elem j=true→ ∃d v,(ops[j]?).bind (·.dst)=some d∧noW d (o::rest)=true∧vP ops s.tmps j=.c (.bool v)∧known? kn' j=some v)→aFB ops rest (dK s o.dst e) kn' kd':=fun {kd'} hh j hj=>by
       obtain⟨d,v,h1,h2,h3,h4⟩:=hh j hj
       obtain⟨q1,q2⟩:=aEC h2
       exact⟨d,v,h1,q2,by rw[aD8 h1 q1];exact h3,h4⟩
      have old: ∀j,kd.elem j=true→ ∃d v,(ops[j]?).bind (·.dst)=some d∧noW d (o::rest)=true∧vP ops s.tmps j=.c (.bool v)∧known? kn' j=some v:=fun j hj=>by
       obtain⟨d,v,h1,h2,h3,h4⟩:=hk j hj
       exact⟨d,v,h1,h2,h3,aCF hd j v h4⟩
      have hk':aFB ops rest (dK s o.dst e) kn' (bif aDQ o kd then kd else aEI ops s (o::rest) o kd):=by
       cases ht:aDQ o kd with
       |true=>rw[cond_true];exact keep old
       |false=>
        rw[cond_false]
        unfold aEI
        split
        ·rename_i j want hg
         cases hgo:gOk ops s (o::rest) j with
         |false=>rw[cond_false];exact keep old
         |true=>
          rw[cond_true]
          refine keep fun k hk1=> ?_
          rw[List.elem_cons]at hk1
          cases ek:k==j with
          |false=>rw[ek]at hk1;exact old k hk1
          |true=>
           rw[beq_iff_eq]at ek;subst ek
           unfold gOk at hgo
           split at hgo
           ·rename_i d v hdst hgv
            obtain⟨c,g1,rfl⟩:=aCI hd hg hgv
            obtain⟨x,r,e1,e2⟩:=aCG hg hgv hs
            have:v=c:=e2.1 (he x (by rw[e1];exact List.mem_cons_self))
            subst this
            exact⟨d,v,hdst,hgo,hgv,g1⟩
           ·cases hgo
        ·exact keep old
      obtain⟨b2,f1,f2⟩:=aC6 hr (fun x hx=>hb x (List.mem_append_right _ hx)) hk'
      refine⟨e.obl++b2, ?_,fun x hx=>(List.mem_append.1 hx).elim (he x) (f2 x)⟩
      simp only[pI,hd,hs,hc,cond_false,f1]
def aBY (tt:Tab) (ct:CT) (lc:List (Nat×LC)) (m:Nat):Nat→Code→St→gJ→Option Out
 |0,_,_,_=>none
 |n+1,c,s,p=>
  match c with
  |.skip=>some ⟨.normal,s,p,[],[]⟩
  |.label _=>some ⟨.normal,s,p,[],[]⟩
  |.ret=>some ⟨.ret,s,p,[],[]⟩
  |.exit id=>some ⟨.exit id,s,p,[],[]⟩
  |.region _ ops draw=>
   let l:=ops.toList
   match aCB tt ct ops l 0 s.heap.length {s with heap:=s.heap++List.replicate (qW l) .unborn} [] [] p with
   |none=>none
   |some (rs,s',p',b)=>
    bif !draw||rT ops rs then some ⟨.normal,s',p',b,[]⟩else none
  |.seq a b=>
   match aBY tt ct lc m n a s p with
   |some ⟨.normal,s',p',o,q⟩=>
    match aBY tt ct lc m n b s' p' with
    |some ⟨e,s'',p'',o',q'⟩=>some ⟨e,s'',p'',o++o',q++q'⟩
    |none=>none
   |r=>r
  |.cond x a b=>
   match p.take (s.ev x)with
   |none=>none
   |some (t,p')=>
    match s.ev x with
    |.c (.bool v)=>
     match aBY tt ct lc m n (bif t then a else b) s p' with
     |some ⟨e,s',p'',o,q⟩=>some ⟨e,s',p'',(bif t then v else !v)::o,q⟩
     |none=>none
    |_=>none
  |.block id body=>
   match tH lc id with
   |some x=>some ⟨x.ex,x.post,p,[],[fit m x.live s=x.pre]⟩
   |none=>
    match aBY tt ct lc m n body s p with
    |some ⟨.exit k,s',p',o,q⟩=>some ⟨if k=id then .normal else .exit k,s',p',o,q⟩
    |r=>r
  |.loop body=>
   match aBY tt ct lc m n body s p with
   |some ⟨.normal,s',p',o,q⟩=>
    match aBY tt ct lc m n (.loop body) s' p' with
    |some ⟨e,s'',p'',o',q'⟩=>some ⟨e,s'',p'',o++o',q++q'⟩
    |none=>none
   |r=>r
  |.scope body=>none
  |_=>none
theorem aBZ {tt:Tab} {ct:CT} {lc:List (Nat×LC)} {m:Nat}: ∀(n:Nat) {c:Code} {s:St} {p:gJ} {o:Out},aBY tt ct lc m n c s p=some o→(∀b∈o.obl,b=true)→
  ∃b,aM tt ct lc m n c s p=some {o with obl:=b}∧ ∀x∈b,x=true
 |0,c,s,p,o,h,_=>by simp[aBY]at h
 |n+1,c,s,p,o,h,ho=>by
  have two: ∀ {a b:Code} {f:Out→Out},(match aBY tt ct lc m n a s p with
    |some ⟨.normal,s',p',o,q⟩=>
     match aBY tt ct lc m n b s' p' with
     |some ⟨e,s'',p'',o',q'⟩=>some (Out.mk e s'' p'' (o++o') (q++q'))
     |none=>none
    |r=>r)=some o→ ∃x,(match aM tt ct lc m n a s p with
    |some ⟨.normal,s',p',o,q⟩=>
     match aM tt ct lc m n b s' p' with
     |some ⟨e,s'',p'',o',q'⟩=>some (Out.mk e s'' p'' (o++o') (q++q'))
     |none=>none
    |r=>r)=some {o with obl:=x}∧ ∀y∈x,y=true:=fun {a b f} h=>by
   split at h
   ·rename_i s1 p1 o1 q1 h1
    split at h
    ·rename_i e s2 p2 o2 q2 h2
     simp only[Option.some.injEq]at h;subst h
     obtain⟨b1,g1,k1⟩:=aBZ n h1 (fun x hx=>ho x (List.mem_append_left _ hx))
     obtain⟨b2,g2,k2⟩:=aBZ n h2 (fun x hx=>ho x (List.mem_append_right _ hx))
     refine⟨b1++b2,by simp only[g1,g2],fun x hx=>(List.mem_append.1 hx).elim (k1 x) (k2 x)⟩
    ·cases h
   ·rename_i hn
    obtain⟨b1,g1,k1⟩:=aBZ n h ho
    refine⟨b1, ?_,k1⟩
    rw[g1]
    split
    ·rename_i s1 p1 o1 q1 h1
     exfalso
     simp only[Option.some.injEq]at h1
     obtain⟨e,s',p',o',q'⟩:=o
     simp only[Out.mk.injEq]at h1
     obtain⟨rfl,rfl,rfl,rfl,rfl⟩:=h1
     exact hn _ _ _ _ h
    ·rfl
  cases c with
  |skip=>simp only[aBY,Option.some.injEq]at h;subst h;exact⟨[],rfl,ho⟩
  |label l=>simp only[aBY,Option.some.injEq]at h;subst h;exact⟨[],rfl,ho⟩
  |ret=>simp only[aBY,Option.some.injEq]at h;subst h;exact⟨[],rfl,ho⟩
  |exit id=>simp only[aBY,Option.some.injEq]at h;subst h;exact⟨[],rfl,ho⟩
  |region id ops draw=>
   simp only[aBY]at h
   split at h
   ·cases h
   ·rename_i rs s' p' b hr
    cases hd: !draw||rT ops rs with
    |false=>rw[hd,cond_false]at h;cases h
    |true=>
     rw[hd,cond_true,Option.some.injEq]at h;subst h
     obtain⟨b',g1,g2⟩:=aC6 hr ho (fun j hj=>by simp at hj)
     exact⟨b',by simp only[aM,g1,hd,cond_true],g2⟩
  |seq a b=>
   simp only[aBY]at h
   obtain⟨x,h1,h2⟩:=two (f:=id) h
   exact⟨x,by simp only[aM];exact h1,h2⟩
  |loop body=>
   simp only[aBY]at h
   obtain⟨x,h1,h2⟩:=two (f:=id) h
   exact⟨x,by simp only[aM];exact h1,h2⟩
  |cond x a b=>
   simp only[aBY]at h
   split at h
   ·cases h
   ·rename_i t p1 ht
    split at h
    ·rename_i v hv
     split at h
     ·rename_i e s1 p2 o1 q1 h1
      simp only[Option.some.injEq]at h;subst h
      obtain⟨b1,g1,k1⟩:=aBZ n h1 (fun x hx=>ho x (List.mem_cons_of_mem _ hx))
      rw[hv]at ht
      refine⟨(bif t then v else !v)::b1,by simp only[aM,hv,ht,g1],fun x hx=> ?_⟩
      rcases List.mem_cons.1 hx with rfl|hx
      ·exact ho _ List.mem_cons_self
      ·exact k1 x hx
     ·cases h
    ·cases h
  |block id body=>
   simp only[aBY]at h
   split at h
   ·rename_i x hx
    simp only[Option.some.injEq]at h;subst h
    exact⟨[],by simp only[aM,hx],ho⟩
   ·rename_i hx
    split at h
    ·rename_i k s1 p1 o1 q1 h1
     simp only[Option.some.injEq]at h;subst h
     obtain⟨b1,g1,k1⟩:=aBZ n h1 ho
     exact⟨b1,by simp only[aM,hx,g1],k1⟩
    ·rename_i hn
     obtain⟨b1,g1,k1⟩:=aBZ n h ho
     refine⟨b1, ?_,k1⟩
     simp only[aM,hx,g1]
     split
     ·rename_i k s1 p1 o1 q1 h1
      exfalso
      simp only[Option.some.injEq]at h1
      obtain⟨e,s',p',o',q'⟩:=o
      simp only[Out.mk.injEq]at h1
      obtain⟨rfl,rfl,rfl,rfl,rfl⟩:=h1
      exact hn _ _ _ _ _ h
     ·rfl
  |scope body=>simp only[aBY]at h;cases h
  |_=>simp only[aBY]at h;cases h
inductive Tr (α:Type):Type where
 |r (x:α)
 |o (l:List Bool) (t:Tr α)
 |b (n:Nat) (c:Bool) (t e:Tr α)
 |d (n:Nat) (v c:Bool) (t:Tr α)
structure Way (α:Type):Type where
 p:gJ
 l:List Bool
 x:α
def Way.pre {α:Type} (p:gJ) (l:List Bool) (w:Way α):Way α:=⟨p++w.p,l++w.l,w.x⟩
def Tr.runs {α:Type}:Tr α→List (Way α)
 |.r x=>[⟨[],[],x⟩]
 |.o l t=>t.runs.map (Way.pre [] l)
 |.b n c t e=>t.runs.map (Way.pre [(n,true)] [c])++e.runs.map (Way.pre [(n,false)] [!c])
 |.d n v c t=>t.runs.map (Way.pre [(n,v)] [bif v then c else !c])
def okL:List Bool→Prop
 |[]=>True
 |b::r=>b=true∧okL r
def Tr.Fits {α:Type} (Q:α→Prop):Tr α→Prop
 |.r x=>Q x
 |.o l t=>okL l∧t.Fits Q
 |.b _ c t e=>(c=true→t.Fits Q)∧(c=false→e.Fits Q)
 |.d _ v c t=>c=v∧t.Fits Q
theorem aD3: ∀ {l:List Bool},okL l→LD l=true
 |[],_=>rfl
 |b::r,h=>by simp only[LD,h.1,aD3 h.2,Bool.and_self]
theorem aC3: ∀(a b:List Bool),LD (a++b)=(LD a&&LD b)
 |[],b=>by simp[LD]
 |x::a,b=>by simp only[List.cons_append,LD,aC3 a b,Bool.and_assoc]
theorem Tr.way {α:Type} {Q:α→Prop}: ∀ {T:Tr α},T.Fits Q→ ∃w∈T.runs,LD w.l=true∧Q w.x
 |.r x,h=>⟨_,List.mem_cons_self,rfl,h⟩
 |.o l t,h=>by
  obtain⟨w,h1,h2,h3⟩:=Tr.way h.2
  refine⟨_,List.mem_map_of_mem h1, ?_,h3⟩
  simp only[Way.pre,aC3,aD3 h.1,h2,Bool.and_self]
 |.b n c t e,h=>by
  cases c with
  |true=>
   obtain⟨w,h1,h2,h3⟩:=Tr.way (h.1 rfl)
   exact⟨_,List.mem_append_left _ (List.mem_map_of_mem h1),by simp only[Way.pre,aC3,h2,LD,Bool.and_self],h3⟩
  |false=>
   obtain⟨w,h1,h2,h3⟩:=Tr.way (h.2 rfl)
   exact⟨_,List.mem_append_right _ (List.mem_map_of_mem h1),by simp only[Way.pre,aC3,h2,LD,Bool.not_false,Bool.and_self],h3⟩
 |.d n v c t,h=>by
  obtain⟨w,h1,h2,h3⟩:=Tr.way h.2
  refine⟨_,List.mem_map_of_mem h1, ?_,h3⟩
  have:=h.1
  subst this
  cases c<;>simp only[Way.pre,aC3,h2,LD,cond_true,cond_false,Bool.not_false,Bool.and_self]
structure RO where
 ex:Ex
 eqs:List Prop
 st:St
def rdO (m:Nat) (live liveX:List Nat) (r:Option Out):Option (Bool×RO):=
 r.map fun o=>(LD o.obl,⟨o.ex,o.eqs,fit m (bif tT o.ex then live else liveX) o.st⟩)
structure FO where
 res:AV
 heap:List aV
 eqs:List Prop
def fnO (tt:Tab) (ct:CT) (lc:List (Nat×LC)) (fuel:Nat) (fn:Func) (args:List AV) (heap:List aV) (p:gJ):Option (Bool×FO):=
 match fn.body with
 |none=>none
 |some c=>
  match aBY tt ct lc heap.length fuel c (GV fn args heap) p with
  |some ⟨.exit _,_,_,_,_⟩=>none
  |some ⟨_,s,_,o,q⟩=>
   match nU tt s fn.results.toList with
   |none=>none
   |some (vs,o')=>
    let res:=lF vs
    let l:=dD heap.length res s.heap
    some (LD (o++o'),⟨res.ren l,l.map fun id=>(Heap.get s.heap id).ren l,q⟩)
  |none=>none
def Tr.Chk {α:Type} (run:gJ→Option (Bool×α)) (T:Tr α):Prop:=T.runs.map (fun w=>run w.p)=T.runs.map fun w=>some (LD w.l,w.x)
theorem Tr.use {α:Type} {run:gJ→Option (Bool×α)} {T:Tr α} (h:T.Chk run) {Q:α→Prop} (f:T.Fits Q): ∃p x,run p=some (true,x)∧Q x:=by
 obtain⟨w,h1,h2,h3⟩:=Tr.way f
 refine⟨w.p,w.x, ?_,h3⟩
 rw[←h2]
 have key: ∀ {l:List (Way α)},l.map (fun w=>run w.p)=l.map (fun w=>some (LD w.l,w.x))→ ∀w∈l,run w.p=some (LD w.l,w.x):=by
  intro l
  induction l with
  |nil=>intro _ w hw;cases hw
  |cons a l ih=>
   intro h w hw
   simp only[List.map_cons,List.cons.injEq]at h
   rcases List.mem_cons.1 hw with rfl|hw
   ·exact h.1
   ·exact ih h.2 w hw
 exact key h w h1
def aC4:List Prop→Prop
 |[]=>True
 |p::r=>p∧aC4 r
theorem aCE: ∀ {l:List Prop},aC4 l→ ∀x∈l,x
 |[],_,x,hx=>by cases hx
 |p::r,h,x,hx=>by
  rcases List.mem_cons.1 hx with rfl|hx
  ·exact h.1
  ·exact aCE h.2 x hx
theorem aC7 {tt:Tab} {ct:CT} {lc:List (Nat×LC)} {m n:Nat} {live liveX:List Nat} {c:Code} {s:St} {p:gJ} {x:RO} (h:rdO m live liveX (aBY tt ct lc m n c s p)=some (true,x)) (hq:aC4 x.eqs):
  ∃f p,Rnd m live liveX (aM tt ct lc m f c s p) x.ex x.st:=by
 obtain⟨o,ho,hx⟩:=Option.map_eq_some_iff.1 h
 simp only[Prod.mk.injEq]at hx
 obtain⟨h1,rfl⟩:=hx
 obtain⟨b,g1,g2⟩:=aBZ n ho (kR h1)
 refine⟨n,p,⟨LD b,o.eqs,by rw[g1];rfl, ?_,aCE hq⟩⟩
 have key: ∀l:List Bool,(∀x∈l,x=true)→LD l=true:=by
  intro l
  induction l with
  |nil=>intro _;rfl
  |cons a l ih=>intro h;simp only[LD,h a List.mem_cons_self,ih fun x hx=>h x (List.mem_cons_of_mem _ hx),Bool.and_self]
 exact key b g2
theorem aDN {tt:Tab} {ct:CT} {lc:List (Nat×LC)} {fuel:Nat} {fn:Func} {args:List AV} {h:List aV} {p:gJ} {x:FO} (hx:fnO tt ct lc fuel fn args h p=some (true,x)):
  ∃o,aJ tt ct lc fuel fn args h p=some o∧o.obl=true∧o.res=x.res∧o.heap=x.heap∧o.eqs=x.eqs:=by
 unfold fnO at hx
 split at hx
 ·cases hx
 ·rename_i c hc
  have key: ∀l:List Bool,(∀x∈l,x=true)→LD l=true:=by
   intro l
   induction l with
   |nil=>intro _;rfl
   |cons a l ih=>intro h;simp only[LD,h a List.mem_cons_self,ih fun x hx=>h x (List.mem_cons_of_mem _ hx),Bool.and_self]
  split at hx
  ·cases hx
  ·rename_i e s p' o q hne he
   split at hx
   ·cases hx
   ·rename_i vs o' hv
    simp only[Option.some.injEq,Prod.mk.injEq]at hx
    obtain⟨h1,rfl⟩:=hx
    have h2:=kR h1
    obtain⟨b,g1,g2⟩:=aBZ fuel he (fun x hx=>h2 x (List.mem_append_left _ hx))
    unfold aJ
    rw[hc]
    simp only[g1]
    cases e with
    |exit k=>exact(hne k rfl).elim
    |normal=>
     simp only[hv]
     exact⟨_,rfl,key _ fun x hx=>(List.mem_append.1 hx).elim (g2 x) fun hx=>h2 x (List.mem_append_right _ hx),rfl,rfl,rfl⟩
    |ret=>
     simp only[hv]
     exact⟨_,rfl,key _ fun x hx=>(List.mem_append.1 hx).elim (g2 x) fun hx=>h2 x (List.mem_append_right _ hx),rfl,rfl,rfl⟩
  ·cases hx
end
section
noncomputable abbrev rd (T:List aZ) (fn:Func) (id:Nat) (m:Nat) (lc:List (Nat×LC)) (s:St) (p:gJ):Option (Bool×RO):=
 rdO m (aE fn id) (aG fn id) (aBY tt (aH T) lc m 100 (aC id (aB fn)) s p)
noncomputable abbrev fo (T:List aZ) (fn:Func) (lc:List (Nat×LC)) (args:List AV) (h:List aV) (p:gJ):Option (Bool×FO):=
 fnO tt (aH T) lc 100 fn args h p
theorem chk {α:Type} {run:gJ→Option (Bool×α)} {T:Tr α} (h:T.runs.map (fun w=>run w.p)=T.runs.map fun w=>some (LD w.l,w.x)):T.Chk run:=h
def e1 (s:St):List Prop:=[s=s]
theorem aH3 (s:St):aC4 (e1 s)=True:=by simp[e1,aC4]
theorem aCY: ∀(a b:List Prop),aC4 (a++b)=(aC4 a∧aC4 b)
 |[],b=>by simp[aC4]
 |x::a,b=>by simp only[List.cons_append,aC4,aCY a b,and_assoc]
theorem fS:(∀ {α:Type} (Q:α→Prop) (x:α),Tr.Fits Q (.r x)=Q x)∧(∀ {α:Type} (Q:α→Prop) (l:List Bool) (t:Tr α),Tr.Fits Q (.o l t)=(okL l∧t.Fits Q))∧
  (∀ {α:Type} (Q:α→Prop) (n:Nat) (c:Bool) (t e:Tr α),Tr.Fits Q (.b n c t e)=((c=true→t.Fits Q)∧(c=false→e.Fits Q)))∧
  (∀ {α:Type} (Q:α→Prop) (n:Nat) (v c:Bool) (t:Tr α),Tr.Fits Q (.d n v c t)=(c=v∧t.Fits Q))∧
  okL []=True∧(∀b r,okL (b::r)=(b=true∧okL r))∧aC4 []=True∧(∀p r,aC4 (p::r)=(p∧aC4 r))∧(∀s,aC4 (e1 s)=True)∧(∀a b,aC4 (a++b)=(aC4 a∧aC4 b))∧
  (∀p:Prop,(p∧True)=p)∧(∀p:Prop,(True∧p)=p)∧(∀ {h:Decidable True}, @decide True h=true)∧(∀b:Bool,(b&&true)=b)∧(∀b:Bool,(true&&b)=b)∧(∀b:Bool,(!!b)=b):=
 ⟨fun _ _=>rfl,fun _ _ _=>rfl,fun _ _ _ _ _=>rfl,fun _ _ _ _ _=>rfl,rfl,fun _ _=>rfl,rfl,fun _ _=>rfl,aH3,aCY,and_true,true_and,fun {h}=> @decide_true h,Bool.and_true,Bool.true_and,Bool.not_not⟩
theorem aF2 {T:List aZ} (hT':bL Tryz.prog (aH T)) {fn:Func} {m id:Nat} {β γ:Type} {n:Nat} {Inv:Nat→β→Prop} {I:Nat→β→St} {X:β→St} {Y:γ→St} {exY:Ex} (hexY:exY=.normal∨exY=.ret) {step:Nat→β→β⊕γ}
  {lc:Nat→β→List (Nat×LC)} {R:Nat→β→Tr RO} {E:β→Tr RO} (hlc: ∀i b,i<n→Inv i b→aL none Tryz.prog m (lc i b) (aC id (aB fn)))
  (hk: ∀i b,(R i b).Chk (rd T fn id m (lc i b) (I i b))) (hkx: ∀b,(E b).Chk (rd T fn id m [] (I n b)))
  (hr: ∀i b,i<n→Inv i b→(R i b).Fits fun x=>aC4 x.eqs∧match step i b with
   |.inl b'=>x.ex=.normal∧x.st=I (i+1) b'∧Inv (i+1) b'
   |.inr c=>x.ex=(if exY=.normal then .exit id else exY)∧x.st=Y c)
  (hx: ∀b,Inv n b→(E b).Fits fun x=>aC4 x.eqs∧x.ex=.exit id∧x.st=X b) (b:β) (h0:Inv 0 b):
  aP none Tryz.prog m (.block id (.loop (aC id (aB fn)))) (I 0 b) fun e t=>match cG step n 0 b with
   |.inl b'=>e=.normal∧t=X b'
   |.inr c=>e=exY∧t=Y c:=by
 refine aP.countE hT hT' bE n Inv I X Y exY hexY step (aE fn id) (aG fn id) lc hlc (fun i b hi hb=> ?_) (fun b hb=> ?_) b h0
 ·obtain⟨p,x,h1,h2,h3⟩:=Tr.use (hk i b) (hr i b hi hb)
  obtain⟨f,p,hR⟩:=aC7 h1 h2
  cases hs:step i b with
  |inl b'=>
   rw[hs]at h3
   obtain⟨q1,q2,q3⟩:=h3
   rw[q1,q2]at hR
   exact .inl ⟨b',rfl,q3,f,p,hR⟩
  |inr c=>
   rw[hs]at h3
   obtain⟨q1,q2⟩:=h3
   rw[q1,q2]at hR
   exact .inr ⟨c,rfl,f,p,hR⟩
 ·obtain⟨p,x,h1,h2,q1,q2⟩:=Tr.use (hkx b) (hx b hb)
  obtain⟨f,p,hR⟩:=aC7 h1 h2
  rw[q1,q2]at hR
  exact⟨f,p,hR⟩
theorem aD0 {T:List aZ} (hT':bL Tryz.prog (aH T)) {fn:Func} {m id:Nat} {n:Nat} {t:Nat→Bool} {I:Nat→St} {X Y:St} {exY:Ex} (hexY:exY=.normal∨exY=.ret)
  {lc:Nat→List (Nat×LC)} {R:Nat→Tr RO} {E:Tr RO} (hlc: ∀i,i<n→aL none Tryz.prog m (lc i) (aC id (aB fn)))
  (hk: ∀i,(R i).Chk (rd T fn id m (lc i) (I i))) (hkx:E.Chk (rd T fn id m [] (I n)))
  (hr: ∀i,i<n→(R i).Fits fun x=>aC4 x.eqs∧(t i=true→x.ex=.normal∧x.st=I (i+1))∧(t i=false→x.ex=(if exY=.normal then .exit id else exY)∧x.st=Y))
  (hx:E.Fits fun x=>aC4 x.eqs∧x.ex=.exit id∧x.st=X):
  aP none Tryz.prog m (.block id (.loop (aC id (aB fn)))) (I 0) fun e s=>e=(bif cL t n 0 then .normal else exY)∧s=bif cL t n 0 then X else Y:=by
 refine aP.all hT hT' bE n t I X Y exY hexY (aE fn id) (aG fn id) lc hlc (fun i hi ht=> ?_) (fun i hi ht=> ?_) ?_
 ·obtain⟨p,x,h1,h2,q,-⟩:=Tr.use (hk i) (hr i hi)
  obtain⟨f,p,hR⟩:=aC7 h1 h2
  obtain⟨q1,q2⟩:=q ht
  rw[q1,q2]at hR
  exact⟨f,p,hR⟩
 ·obtain⟨p,x,h1,h2,-,q⟩:=Tr.use (hk i) (hr i hi)
  obtain⟨f,p,hR⟩:=aC7 h1 h2
  obtain⟨q1,q2⟩:=q ht
  rw[q1,q2]at hR
  exact⟨f,p,hR⟩
 ·obtain⟨p,x,h1,h2,q1,q2⟩:=Tr.use hkx hx
  obtain⟨f,p,hR⟩:=aC7 h1 h2
  rw[q1,q2]at hR
  exact⟨f,p,hR⟩
theorem aHC {T:List aZ} (hT':bL Tryz.prog (aH T)) {fn:Func} {m id:Nat} {α:Type} {Inv:α→Prop} {I:α→St} {μ:α→Nat} {post:α→St} {R:α→Tr RO} (hk: ∀x,(R x).Chk (rd T fn id m [] (I x)))
  (hr: ∀x,Inv x→(R x).Fits fun y=>aC4 y.eqs∧((y.ex=.normal∧ ∃x',Inv x'∧μ x'<μ x∧y.st=I x'∧post x'=post x)∨(y.ex=.exit id∧y.st=post x))):
  ∀x,Inv x→aP none Tryz.prog m (.block id (.loop (aC id (aB fn)))) (I x) fun e t=>e=.normal∧t=post x:=by
 refine aP.roundsN hT hT' bE Inv I μ (aE fn id) (aG fn id) post (fun _=>[]) (fun _ _=>aL.nil) fun x hx=> ?_
 obtain⟨p,y,h1,h2,h3⟩:=Tr.use (hk x) (hr x hx)
 obtain⟨f,p,⟨b,q,g,hb,hq⟩⟩:=aC7 h1 h2
 refine⟨f,p,y.ex,b,q,y.st,g,hb,hq, ?_⟩
 rcases h3 with⟨e,x',a1,a2,a3,a4⟩|⟨e,a⟩
 ·exact .inl ⟨e,x',a1,a2,a3,a4⟩
 ·exact .inr ⟨e,a⟩
theorem aC0 {T:List aZ} (hT':bL Tryz.prog (aH T)) {f:FuncId} {fn:Func} {lc:List (Nat×LC)} {args:List AV} {h h':List aV} {res:AV} {R:Tr FO} (hk:R.Chk (fo T fn lc args h))
  (hr:R.Fits fun x=>aC4 x.eqs∧x.res=res∧x.heap=h') (hlc: ∀c,fn.body=some c→aL none Tryz.prog h.length lc c:=by exact fun _ _=>aL.nil) (hf:Tryz.prog.funcs[f]? =some fn:=by kernel_rfl)
  (hnm:(fn.name== "runtime.NumGoroutine")=false:=by kernel_rfl):bF Tryz.prog f args h res h':=by
 obtain⟨p,x,h1,h2,rfl,rfl⟩:=Tr.use hk hr
 obtain⟨o,g1,g2,g3,g4,g5⟩:=aDN h1
 rw[←g3,←g4]
 exact cA hT' hf hnm g1 g2 (by rw[g5];exact aCE h2) hlc
abbrev lcB (ok:Bool) (id:Nat) (live:List Nat) (pre X Y:St):List (Nat×LC):=bif ok then [(id,⟨live,pre,.normal,X⟩)]else [(id,⟨live,pre,.ret,Y⟩)]
theorem aCN {ok:Bool} {m id:Nat} {live:List Nat} {pre X Y:St} {c:Code} {b:Code} (g:aP none Tryz.prog m (.block id (.loop b)) pre fun e t=>e=(bif ok then .normal else .ret)∧t=bif ok then X else Y) (hb:oM id c=[.loop b]):aL none Tryz.prog m (lcB ok id live pre X Y) c:=by
 cases ok
 ·exact aL.blk hb g aL.nil
 ·exact aL.blk hb g aL.nil
theorem aFD {ok:Bool} {A B:Tr RO} {T:List aZ} {fn:Func} {id m:Nat} {id':Nat} {live:List Nat} {pre X Y s:St} (hA:A.Chk (rd T fn id m [(id',⟨live,pre,.normal,X⟩)] s)) (hB:B.Chk (rd T fn id m [(id',⟨live,pre,.ret,Y⟩)] s)):
  (bif ok then A else B:Tr RO).Chk (rd T fn id m (lcB ok id' live pre X Y) s):=by
 cases ok
 ·exact hB
 ·exact hA
theorem aGR {ok:Bool} {A B:Tr FO} {T:List aZ} {fn:Func} {id':Nat} {live:List Nat} {pre X Y:St} {args:List AV} {h:List aV} (hA:A.Chk (fo T fn [(id',⟨live,pre,.normal,X⟩)] args h)) (hB:B.Chk (fo T fn [(id',⟨live,pre,.ret,Y⟩)] args h)):
  (bif ok then A else B:Tr FO).Chk (fo T fn (lcB ok id' live pre X Y) args h):=by
 cases ok
 ·exact hB
 ·exact hA
theorem aHB {ok:Bool} {m id:Nat} {fn:Func} {live:List Nat} {pre X Y:St} (g:aP none Tryz.prog m (.block id (.loop (aC id (aB fn)))) pre fun e t=>e=(bif ok then .normal else .ret)∧t=bif ok then X else Y) (hb:oM id (aB fn)=[.loop (aC id (aB fn))]):
  ∀c,fn.body=some c→aL none Tryz.prog m (lcB ok id live pre X Y) c:=fun c hc=>by
 have e:aB fn=c:=by unfold aB;rw[hc]
 rw[←e]
 exact aCN g hb
theorem lc1 {m:Nat} {fn:Func} {b:Nat×LC} (hl:tS b.1 (aB fn)=true) (g:KP m fn b): ∀c,fn.body=some c→aL none Tryz.prog m [b] c:=
 S4 fun x hx=>by rw[List.mem_singleton]at hx;subst hx;exact⟨hl,g⟩
end
section
noncomputable def aDJ:List aZ:=[⟨70,[],dW tt (aH ZP) Tryz.f70 []⟩]++ZP
theorem aGS:aA Tryz.prog aDJ:=by
 refine aA.append ?_ a8P
 intro e he
 simp only[List.mem_cons,List.not_mem_nil,or_false]at he
 subst he;exact cJ hT aBV bE [] (by kernel_rfl) (by kernel_rfl)
theorem aGB:bL Tryz.prog (aH aDJ):=aQ aGS
noncomputable abbrev fIW:=Tryz.f122
noncomputable def IIW (x:PK) (v:List Int) (i:Int):St:=aS fIW.ntmps [(0,.c (.sl 0 0 v.length 1 none)),(1,.c (.fn 70 [.ptr 1 0 0 0])),(7,.c (.int .i64 v.length)),(8,.c (.int .i64 i))] [.live (.ints .i64 v),.live (.cells (Ty.cells .pk x))]
noncomputable def XIW (x:PK) (v:List Int):St:=aS fIW.ntmps [] [.live (.ints .i64 v),.live (.cells (Ty.cells .pk x))]
noncomputable def YIW (x:PK) (v:List Int) (i:Int):St:=aS fIW.ntmps [(4,.c (.int .i64 i))] [.live (.ints .i64 v),.live (.cells (Ty.cells .pk x))]
noncomputable def aFN (x:PK) (v:List Int) (i:Int):Tr RO:=.b 0 (decide (i<(↑v.length:Int))) (.o [decide (0≤i),decide (i<(↑v.length:Int)),decide (i.toNat<v.length),decide (0≤v.getD i.toNat 0)&&(decide (v.getD i.toNat 0<(↑x.c.length:Int))&&(decide ((v.getD i.toNat 0).toNat<x.c.length)&&true))] (.b 0 (x.c.getD (v.getD i.toNat 0).toNat false) (.r ⟨.ret,[],YIW x v (i)⟩) (.r ⟨.normal,[],IIW x v (IntKind.i64.wrap (i+1))⟩))) (.r ⟨.exit 0,[],XIW x v⟩)
theorem rIW (x:PK) (v:List Int) (i:Int):(aFN x v i).Chk (rd aDJ fIW 0 2 ([]) (IIW x v i)):=chk (by kernel_rfl)
noncomputable def aHL (x:PK) (v:List Int):Tr FO:=.r ⟨AV.c (aI.int IntKind.i64 (-1)),[aV.live (Con.ints IntKind.i64 v),aV.live (.cells (Ty.cells .pk x))],e1 (IIW x v 0)⟩
theorem xIW (x:PK) (v:List Int):(aHL x v).Chk (fo aDJ fIW ([(0,⟨aE fIW 0,IIW x v 0,.normal,XIW x v⟩)]) [.c (.sl 0 0 v.length 1 none),.c (.fn 70 [.ptr 1 0 0 0])] [.live (.ints .i64 v),.live (.cells (Ty.cells .pk x))]):=chk (by kernel_rfl)
noncomputable def aHW (x:PK) (v:List Int) (j:Nat):Tr FO:=.r ⟨AV.c (aI.int IntKind.i64 (↑j:Int)),[aV.live (Con.ints IntKind.i64 v),aV.live (.cells (Ty.cells .pk x))],e1 (IIW x v 0)⟩
theorem yIW (x:PK) (v:List Int) (j:Nat):(aHW x v j).Chk (fo aDJ fIW ([(0,⟨aE fIW 0,IIW x v 0,.ret,YIW x v j⟩)]) [.c (.sl 0 0 v.length 1 none),.c (.fn 70 [.ptr 1 0 0 0])] [.live (.ints .i64 v),.live (.cells (Ty.cells .pk x))]):=chk (by kernel_rfl)
theorem aD5 (f:Nat→Bool): ∀n i,match cG (β:=Unit) (γ:=Nat) (fun i _=>bif f i then .inr i else .inl ()) n i ()with
  |.inl _=>cL (fun i=> !f i) n i=true
  |.inr _=>cL (fun i=> !f i) n i=false
 |0,i=>rfl
 |n+1,i=>by
  simp only[cG,cL]
  cases h:f i with
  |true=>rfl
  |false=>simpa only[cond_false,Bool.not_false,Bool.true_and]using aD5 f n (i+1)
def ixR (p:Int→Bool) (v:List Int):Int:=match cG (β:=Unit) (γ:=Nat) (fun i _=>bif p (v.getD i 0)then .inr i else .inl ()) v.length 0 ()with
 |.inl _=> -1
 |.inr j=>j
theorem aEY (p:Int→Bool) (v:List Int):decide (ixR p v≥0)= !v.all fun y=> !p y:=by
 have h:=aD5 (fun i=>p (v.getD i 0)) v.length 0
 rw[AL (l:=v) (d:=0) (p:=fun y=> !p y)]at h
 unfold ixR
 split at h
 ·rw[h];rfl
 ·rw[h];simp
def aDW:aO:=fun args h=>
 match args,h with
 |[.c (.sl 0 0 n 1 none),.c (.fn 70 [.ptr 1 0 0 0])],[.live (.ints .i64 v),.live (.cells [.int .i64 k,.view none (.ints .i64 a) n1 1 none,.view none (.ints .i64 b) n2 1 none,.view none (.bools c) n3 1 none,.bool on,.int .i64 kd,.view none (.ints .i64 d) n4 1 none,.int .i64 vs])]=>
  some (.c (.int .i64 (ixR (fun y=>c.getD y.toNat false) v)),[.live (.ints .i64 v),.live (.cells [.int .i64 k,.view none (.ints .i64 a) n1 1 none,.view none (.ints .i64 b) n2 1 none,.view none (.bools c) n3 1 none,.bool on,.int .i64 kd,.view none (.ints .i64 d) n4 1 none,.int .i64 vs])],[decide (v.length≤274877906944),decide (n=v.length),decide (n1=a.length),decide (n2=b.length),decide (n3=c.length),decide (n4=d.length),decide (c.length=8),v.all fun y=>bet y 0 7])
 |_,_=>none
theorem mIW:aR Tryz.prog 122 aDW:=by
 intro args h res h' o he ho
 unfold aDW at he
 split at he
 case h_2=>cases he
 rename_i n v k a n1 b n2 c n3 on kd d n4 vs
 simp only[Option.some.injEq,Prod.mk.injEq]at he
 obtain⟨rfl,rfl,rfl⟩:=he
 simp only[List.mem_cons,List.not_mem_nil,or_false,forall_eq_or_imp,forall_eq,decide_eq_true_eq]at ho
 obtain⟨o1,o2,o3,o4,o5,o6,o7,o8⟩:=ho
 subst o2 o3 o4 o5 o6
 have g:=aF2 aGB (fn:=fIW) (id:=0) (m:=2) (n:=v.length) (Inv:=fun _ _=>True) (I:=fun i (_:Unit)=>IIW ⟨k,a,b,c,on,kd,d,vs⟩ v i) (X:=fun _=>XIW ⟨k,a,b,c,on,kd,d,vs⟩ v) (Y:=fun j:Nat=>YIW ⟨k,a,b,c,on,kd,d,vs⟩ v j) (.inr rfl)
  (step:=fun i _=>bif c.getD (v.getD i 0).toNat false then .inr i else .inl ()) (lc:=fun _ _=>[]) (fun _ _ _ _=>aL.nil) (fun i _=>rIW _ v i) (fun _=>rIW _ v v.length) (fun i _ hi _=> ?_) (fun _ _=> ?_) () trivial
 ·unfold ixR
  generalize cG _ v.length 0 ()=r at g
  rcases r with r|j
  ·exact aC0 aGB (xIW ⟨k,a,b,c,on,kd,d,vs⟩ v) (by simp only[aHL,fS];exact rfl) (lc1 (by kernel_rfl) g)
  ·exact aC0 aGB (yIW ⟨k,a,b,c,on,kd,d,vs⟩ v j) (by simp only[aHW,fS];exact rfl) (lc1 (by kernel_rfl) g)
 ·have hb:bet (v.getD i 0) 0 7=true:=List.all_eq_true.1 o8 _ (dC hi)
  simp only[bet,Bool.and_eq_true,rpS,decide_eq_true_eq]at hb
  have hw:IntKind.i64.wrap ((i:Int)+1)=((i+1:Nat):Int):=by rw[aF (by omega) (by omega)];rfl
  simp only[aFN,fS,Int.toNat_natCast,hw]
  grind
 ·simp only[aFN,fS];grind
noncomputable def aEJ:List aZ:=[⟨122,[0,1],aDW⟩]++aDJ
theorem aGT:aA Tryz.prog aEJ:=by
 refine aA.append ?_ aGS
 intro e he
 simp only[List.mem_cons,List.not_mem_nil,or_false]at he
 subst he;exact mIW
theorem aIU:bL Tryz.prog (aH aEJ):=aQ aGT
noncomputable def aHK (x:PK) (v:List Int):Tr FO:=.o [decide (v.length≤274877906944),decide (v.length=v.length),decide (x.2.length=x.2.length),decide (x.3.length=x.3.length),decide (x.c.length=x.c.length),decide (x.7.length=x.7.length),decide (x.c.length=8),v.all fun y=>bet y 0 7] (.r ⟨AV.c (aI.bool (decide (ixR (fun y=>x.c.getD y.toNat false) v≥0))),[aV.live (Con.ints IntKind.i64 v),aV.live (.cells (Ty.cells .pk x))],[]⟩)
theorem xCW (x:PK) (v:List Int):(aHK x v).Chk (fo aEJ Tryz.f68 ([]) [.c (.sl 0 0 v.length 1 none),.c (.fn 70 [.ptr 1 0 0 0])] [.live (.ints .i64 v),.live (.cells (Ty.cells .pk x))]):=chk (by kernel_rfl)
def aDR:aO:=fun args h=>
 match args,h with
 |[.c (.sl 0 0 n 1 none),.c (.fn 70 [.ptr 1 0 0 0])],[.live (.ints .i64 v),.live (.cells [.int .i64 k,.view none (.ints .i64 a) n1 1 none,.view none (.ints .i64 b) n2 1 none,.view none (.bools c) n3 1 none,.bool on,.int .i64 kd,.view none (.ints .i64 d) n4 1 none,.int .i64 vs])]=>
  some (.c (.bool (!v.all fun y=> !c.getD y.toNat false)),[.live (.ints .i64 v),.live (.cells [.int .i64 k,.view none (.ints .i64 a) n1 1 none,.view none (.ints .i64 b) n2 1 none,.view none (.bools c) n3 1 none,.bool on,.int .i64 kd,.view none (.ints .i64 d) n4 1 none,.int .i64 vs])],[decide (v.length≤274877906944),decide (n=v.length),decide (n1=a.length),decide (n2=b.length),decide (n3=c.length),decide (n4=d.length),decide (c.length=8),v.all fun y=>bet y 0 7])
 |_,_=>none
theorem mCW:aR Tryz.prog 68 aDR:=by
 intro args h res h' o he ho
 unfold aDR at he
 split at he
 case h_2=>cases he
 rename_i n v k a n1 b n2 c n3 on kd d n4 vs
 simp only[Option.some.injEq,Prod.mk.injEq]at he
 obtain⟨rfl,rfl,rfl⟩:=he
 simp only[List.mem_cons,List.not_mem_nil,or_false,forall_eq_or_imp,forall_eq,decide_eq_true_eq]at ho
 obtain⟨o1,o2,o3,o4,o5,o6,o7,o8⟩:=ho
 subst o2 o3 o4 o5 o6
 exact aC0 aIU (xCW ⟨k,a,b,c,on,kd,d,vs⟩ v) (by simp only[aHK,fS,aEY];and_intros<;>first|rfl|grind)
noncomputable def aC5:List aZ:=[⟨68,[0,1],aDR⟩]++aEJ
theorem aGU:aA Tryz.prog aC5:=by
 refine aA.append ?_ aGT
 intro e he
 simp only[List.mem_cons,List.not_mem_nil,or_false]at he
 subst he;exact mCW
theorem aCK:bL Tryz.prog (aH aC5):=aQ aGU
noncomputable abbrev fWI:=Tryz.f25
noncomputable def IWI (q:Int) (its:List Itm) (dn:List Bool) (i:Int):St:=aS fWI.ntmps [(1,.c (.ptr 0 0 0 0)),(19,.c (.view none (.typ .itm its) its.length 2 none)),(20,.c (.int .i64 (its.length:Int))),(21,.c (.int .i64 i))] [.live (.cells [.int .i64 q,.view none (.typ .itm its) its.length 2 none,.view none (.bools dn) dn.length 1 none])]
noncomputable def XWI (q:Int) (its:List Itm) (dn:List Bool):St:=aS fWI.ntmps [] []
noncomputable def YWI (q:Int) (its:List Itm) (dn:List Bool):St:=aS fWI.ntmps [(2,.c (.bool false))] []
noncomputable def JWI (q:Int) (its:List Itm) (dn:List Bool) (i:Int) (ks:List PK) (j:Int):St:=aS fWI.ntmps [(1,.c (.ptr 0 0 0 0)),(19,.c (.view none (.typ .itm its) its.length 2 none)),(20,.c (.int .i64 (its.length:Int))),(21,.c (.int .i64 i)),(26,.c (.view none (.typ .pk ks) ks.length 8 none)),(27,.c (.int .i64 (ks.length:Int))),(28,.c (.int .i64 j))] [.live (.cells [.int .i64 q,.view none (.typ .itm its) its.length 2 none,.view none (.bools dn) dn.length 1 none])]
noncomputable def ZWI (q:Int) (its:List Itm) (dn:List Bool) (i:Int):St:=aS fWI.ntmps [(2,.c (.bool false)),(1,.c (.ptr 0 0 0 0)),(19,.c (.view none (.typ .itm its) its.length 2 none)),(20,.c (.int .i64 (its.length:Int))),(21,.c (.int .i64 i))] [.live (.cells [.int .i64 q,.view none (.typ .itm its) its.length 2 none,.view none (.bools dn) dn.length 1 none])]
noncomputable def aFG (q:Int) (its:List Itm) (dn:List Bool) (i:Int) (ks:List PK) (j:Int):Tr RO:=.b 0 (decide (j<(↑ks.length:Int))) (.o [decide (0≤j),decide (j<(↑ks.length:Int)),decide (j.toNat<ks.length)&&true,decide (dn.length≤274877906944),decide ((flg dn).length≤274877906944),decide ((flg dn).length=(flg dn).length),decide ((ks.getD j.toNat PK0).2.length=(ks.getD j.toNat PK0).2.length),decide ((ks.getD j.toNat PK0).3.length=(ks.getD j.toNat PK0).3.length),decide ((ks.getD j.toNat PK0).c.length=(ks.getD j.toNat PK0).c.length),decide ((ks.getD j.toNat PK0).7.length=(ks.getD j.toNat PK0).7.length),decide ((ks.getD j.toNat PK0).c.length=8),(flg dn).all fun y=>bet y 0 7] (.b 0 (!(flg dn).all fun y=> !(ks.getD j.toNat PK0).c.getD y.toNat false) (.r ⟨.ret,[],ZWI q its dn i⟩) (.r ⟨.normal,[],JWI q its dn i ks (IntKind.i64.wrap (j+1))⟩))) (.r ⟨.exit 2,[],IWI q its dn i⟩)
theorem jWI (q:Int) (its:List Itm) (dn:List Bool) (i:Int) (ks:List PK) (j:Int):(aFG q its dn i ks j).Chk (rd aC5 fWI 2 0 ([]) (JWI q its dn i ks j)):=chk (by kernel_rfl)
noncomputable def aH5 (q:Int) (its:List Itm) (dn:List Bool) (i:Int):Tr RO:=.d 0 false (decide (i<(↑its.length:Int))) (.r ⟨.exit 0,[],XWI q its dn⟩)
theorem eWI (q:Int) (its:List Itm) (dn:List Bool) (i:Int):(aH5 q its dn i).Chk (rd aC5 fWI 0 0 [] (IWI q its dn i)):=chk (by kernel_rfl)
noncomputable def aFQ (q:Int) (its:List Itm) (dn:List Bool) (i:Int):Tr RO:=.b 0 (decide (i<(↑its.length:Int))) (.o [decide (0≤i),decide (i<(↑its.length:Int)),decide (i.toNat<its.length)&&true] (.r ⟨.normal,e1 (JWI q its dn i (its.getD i.toNat bM).ks 0),IWI q its dn (IntKind.i64.wrap (i+1))⟩)) (.r ⟨.exit 0,[],XWI q its dn⟩)
theorem rWI (q:Int) (its:List Itm) (dn:List Bool) (i:Int):(aFQ q its dn i).Chk (rd aC5 fWI 0 0 ([(2,⟨aE fWI 2,JWI q its dn i (its.getD i.toNat bM).ks 0,.normal,IWI q its dn i⟩)]) (IWI q its dn i)):=chk (by kernel_rfl)
noncomputable def aG9 (q:Int) (its:List Itm) (dn:List Bool) (i:Int):Tr RO:=.b 0 (decide (i<(↑its.length:Int))) (.o [decide (0≤i),decide (i<(↑its.length:Int)),decide (i.toNat<its.length)&&true] (.r ⟨.ret,e1 (JWI q its dn i (its.getD i.toNat bM).ks 0),YWI q its dn⟩)) (.r ⟨.exit 0,[],XWI q its dn⟩)
theorem sWI (q:Int) (its:List Itm) (dn:List Bool) (i:Int):(aG9 q its dn i).Chk (rd aC5 fWI 0 0 ([(2,⟨aE fWI 2,JWI q its dn i (its.getD i.toNat bM).ks 0,.ret,ZWI q its dn i⟩)]) (IWI q its dn i)):=chk (by kernel_rfl)
noncomputable def aFK (q:Int) (its:List Itm) (dn:List Bool):Tr FO:=.o [decide (its.length=its.length),sdI its] (.b 0 (!shB q its) (.o [!shB q its] (.r ⟨AV.c (aI.bool false),[],[]⟩)) (.d 0 true (bif !shB q its then true else(↑dn.length:Int)!=8) (.r ⟨AV.c (aI.bool false),[],[]⟩)))
theorem nWI (q:Int) (its:List Itm) (dn:List Bool):(aFK q its dn).Chk (fo aC5 fWI [] [.agg [.int .i64 q,.view none (.typ .itm its) its.length 2 none,.view none (.bools dn) dn.length 1 none]] []):=chk (by kernel_rfl)
noncomputable def aHN (q:Int) (its:List Itm) (dn:List Bool):Tr FO:=.o [decide (its.length=its.length),sdI its] (.b 0 (!shB q its) (.o [!shB q its] (.r ⟨AV.c (aI.bool false),[],[]⟩)) (.b 0 (bif !shB q its then true else(↑dn.length:Int)!=8) (.r ⟨AV.c (aI.bool false),[],[]⟩) (.r ⟨AV.c (aI.bool true),[],e1 (IWI q its dn 0)⟩)))
theorem xWI (q:Int) (its:List Itm) (dn:List Bool):(aHN q its dn).Chk (fo aC5 fWI ([(0,⟨aE fWI 0,IWI q its dn 0,.normal,XWI q its dn⟩)]) [.agg [.int .i64 q,.view none (.typ .itm its) its.length 2 none,.view none (.bools dn) dn.length 1 none]] []):=chk (by kernel_rfl)
noncomputable def aHY (q:Int) (its:List Itm) (dn:List Bool):Tr FO:=.o [decide (its.length=its.length),sdI its] (.b 0 (!shB q its) (.o [!shB q its] (.r ⟨AV.c (aI.bool false),[],[]⟩)) (.b 0 (bif !shB q its then true else(↑dn.length:Int)!=8) (.r ⟨AV.c (aI.bool false),[],[]⟩) (.r ⟨AV.c (aI.bool false),[],e1 (IWI q its dn 0)⟩)))
theorem yWI (q:Int) (its:List Itm) (dn:List Bool):(aHY q its dn).Chk (fo aC5 fWI ([(0,⟨aE fWI 0,IWI q its dn 0,.ret,YWI q its dn⟩)]) [.agg [.int .i64 q,.view none (.typ .itm its) its.length 2 none,.view none (.bools dn) dn.length 1 none]] []):=chk (by kernel_rfl)
def wk (dn:List Bool) (x:PK):Bool:=(flg dn).all fun y=> !x.c.getD y.toNat false
def wi (dn:List Bool) (it:Itm):Bool:=it.ks.all (wk dn)
def woB (q:Int) (its:List Itm) (dn:List Bool):Bool:=shB q its&&((dn.length:Int)==8&&its.all (wi dn))
theorem aEW {dn:List Bool} (h:dn.length=8):((flg dn).all fun y=>bet y 0 7)=true:=by
 have:=mD dn
 unfold d9 at this
 rw[h]at this
 rw[List.all_eq_true]at this⊢
 intro y hy
 have:=this y hy
 simp only[bet,Bool.and_eq_true,rpS,decide_eq_true_eq]at this⊢
 omega
theorem aEF {q:Int} {its:List Itm} (h:shB q its=true) {i:Nat} (hi:i<its.length) {x:PK} (hx:x∈(its.getD i bM).ks):x.c.length=8:=by
 unfold shB at h
 rw[Bool.and_eq_true]at h
 have:=cF.1 h.1 i (Nat.zero_le _) (by omega)
 unfold tI itB at this
 simp only[Bool.and_eq_true,rpS]at this
 have:=List.all_eq_true.1 this.1.1 x hx
 unfold okR at this
 rw[Bool.and_eq_true]at this
 exact(dV this.1).2.2
theorem lJW (q:Int) (its:List Itm) (dn:List Bool) (i:Int) (ks:List PK) (hd:dn.length=8) (hl:ks.length≤274877906944) (hk: ∀x∈ks,x.c.length=8):
  aP none Tryz.prog 0 (.block 2 (.loop (aC 2 (aB fWI)))) (JWI q its dn i ks 0) fun e t=>e=(bif ks.all (wk dn)then .normal else .ret)∧t=bif ks.all (wk dn)then IWI q its dn i else ZWI q its dn i:=by
 rw[←AL (d:=PK0)]
 refine aD0 aCK (I:=fun j=>JWI q its dn i ks j) (.inr rfl) (lc:=fun _=>[]) (fun _ _=>aL.nil) (fun j=>jWI q its dn i ks j) (jWI q its dn i ks ks.length) (fun j hj=> ?_) ?_
 ·have h8:=hk _ (dC (d:=PK0) hj)
  have h1:=nC dn
  have hw:IntKind.i64.wrap ((j:Int)+1)=((j+1:Nat):Int):=by rw[aF (by omega) (by omega)];rfl
  simp only[aFG,fS,Int.toNat_natCast,hw,aEW hd]
  unfold wk
  grind
 ·simp only[aFG,fS];grind
theorem lWI (q:Int) (its:List Itm) (dn:List Bool) (hd:dn.length=8) (hs:sdI its=true) (h:shB q its=true):
  aP none Tryz.prog 0 (.block 0 (.loop (aC 0 (aB fWI)))) (IWI q its dn 0) fun e t=>e=(bif its.all (wi dn)then .normal else .ret)∧t=bif its.all (wi dn)then XWI q its dn else YWI q its dn:=by
 obtain⟨hn,hk⟩:=l6 hs
 have hn8:its.length≤274877906944:=hn
 rw[←AL (d:=bM)]
 refine aD0 aCK (I:=fun i=>IWI q its dn i) (.inr rfl) (lc:=fun i=>lcB (wi dn (its.getD i bM)) 2 (aE fWI 2) (JWI q its dn i (its.getD i bM).ks 0) (IWI q its dn i) (ZWI q its dn i))
  (R:=fun i=>bif wi dn (its.getD i bM)then aFQ q its dn i else aG9 q its dn i) (fun i hi=>aCN (lJW q its dn i _ hd (rU (hk i)).1 fun x hx=>aEF h hi hx) (by kernel_rfl)) (fun i=>aFD (rWI q its dn i) (sWI q its dn i)) (eWI q its dn its.length) (fun i hi=> ?_) ?_
 ·have hw:IntKind.i64.wrap ((i:Int)+1)=((i+1:Nat):Int):=by rw[aF (by omega) (by omega)];rfl
  cases hb:wi dn (its.getD i bM)<;>simp only[cond_true,cond_false,aFQ,aG9,fS,Int.toNat_natCast,hw]<;>grind
 ·simp only[aH5,fS];grind
def aF9:aO:=fun args h=>
 match args,h with
 |[.agg [.int .i64 q,.view _ (.typ .itm its) n 2 _,.view _ (.bools dn) n2 1 _]],[]=>
  some (.c (.bool (woB q its dn)),[],[decide (n=its.length),sdI its,decide (n2=dn.length)])
 |_,_=>none
theorem mWI:aT Tryz.prog 25 aF9:=by
 intro args h res h' o hnorm he ho
 unfold aF9 at he
 split at he
 case h_2=>cases he
 rename_i q nl its n cap nl2 dn n2 cap2
 simp only[Option.some.injEq,Prod.mk.injEq]at he
 obtain⟨rfl,rfl,rfl⟩:=he
 simp only[List.mem_cons,List.not_mem_nil,or_false,forall_eq_or_imp,forall_eq,decide_eq_true_eq]at ho
 obtain⟨o1,o2,o3⟩:=ho
 simp only[b8,AV.norm,bA,aI.norm,Con.size,List.cons.injEq,AV.c.injEq,AV.agg.injEq,aI.view.injEq,aN,true_and,and_true]at hnorm
 obtain⟨⟨rfl,_,rfl⟩,rfl,_,rfl⟩:=hnorm
 subst o1 o3
 unfold woB
 cases c1:shB q its with
 |false=>exact aC0 aCK (nWI q its dn) (by simp only[aFK,fS,c1,o2];grind)
 |true=>
  cases c2:(dn.length:Int)==8 with
  |false=>exact aC0 aCK (nWI q its dn) (by simp only[aFK,fS,c1,c2,o2,bne];grind)
  |true=>
   have hd:dn.length=8:=by have:=beq_iff_eq.1 c2;omega
   exact aC0 aCK (aGR (xWI q its dn) (yWI q its dn)) (by cases hb:its.all (wi dn)<;>simp only[cond_true,cond_false,aHN,aHY,fS,c1,c2,bne,o2]<;>grind) (aHB (lWI q its dn hd o2 c1) (by kernel_rfl))
noncomputable abbrev fWS:=Tryz.f23
noncomputable def IWS (q:Int) (its:List Itm) (dn:List Bool) (i:Int):St:=aS fWS.ntmps [(1,.c (.ptr 0 0 0 0)),(3,.c (.int .i64 i))] [.live (.cells [.int .i64 q,.view none (.typ .itm its) its.length 2 none,.view none (.bools dn) dn.length 1 none])]
noncomputable def XWS (q:Int) (its:List Itm) (dn:List Bool):St:=aS fWS.ntmps [] []
noncomputable def YWS (q:Int) (its:List Itm) (dn:List Bool):St:=aS fWS.ntmps [(2,.c (.bool false))] []
noncomputable def ZWS (q:Int) (its:List Itm) (dn:List Bool) (i:Int):St:=aS fWS.ntmps [(2,.c (.bool false)),(1,.c (.ptr 0 0 0 0)),(3,.c (.int .i64 i))] [.live (.cells [.int .i64 q,.view none (.typ .itm its) its.length 2 none,.view none (.bools dn) dn.length 1 none])]
noncomputable def JWS (q:Int) (its:List Itm) (dn:List Bool) (i k:Int):St:=aS fWS.ntmps [(1,.c (.ptr 0 0 0 0)),(3,.c (.int .i64 i)),(4,.c (.int .i64 k))] [.live (.cells [.int .i64 q,.view none (.typ .itm its) its.length 2 none,.view none (.bools dn) dn.length 1 none])]
noncomputable def VWS (q:Int) (its:List Itm) (dn:List Bool) (i k:Int):St:=aS fWS.ntmps [(2,.c (.bool false)),(1,.c (.ptr 0 0 0 0)),(3,.c (.int .i64 i)),(4,.c (.int .i64 k))] [.live (.cells [.int .i64 q,.view none (.typ .itm its) its.length 2 none,.view none (.bools dn) dn.length 1 none])]
noncomputable def LWS (q:Int) (its:List Itm) (dn:List Bool) (i k j:Int):St:=aS fWS.ntmps [(1,.c (.ptr 0 0 0 0)),(3,.c (.int .i64 i)),(4,.c (.int .i64 k)),(5,.c (.int .i64 j))] [.live (.cells [.int .i64 q,.view none (.typ .itm its) its.length 2 none,.view none (.bools dn) dn.length 1 none])]
noncomputable def aFH (q:Int) (its:List Itm) (dn:List Bool) (i k j:Int):Tr RO:=.b 0 (decide (j<8)) (.o [decide (0≤j),decide (j<(↑dn.length:Int)),decide (j.toNat<dn.length)] (.b 0 (dn.getD j.toNat false) (.o [decide (0≤i),decide (i<(↑its.length:Int)),decide (i.toNat<its.length)&&true,decide (0≤k),decide (k<(↑(its.getD i.toNat bM).ks.length:Int)),decide (k.toNat<(its.getD i.toNat bM).ks.length)&&true,decide (0≤j),decide (j<(↑((its.getD i.toNat bM).ks.getD k.toNat PK0).c.length:Int)),decide (j.toNat<((its.getD i.toNat bM).ks.getD k.toNat PK0).c.length)] (.b 0 (bif dn.getD j.toNat false then((its.getD i.toNat bM).ks.getD k.toNat PK0).c.getD j.toNat false else false) (.r ⟨.ret,[],VWS q its dn i k⟩) (.r ⟨.normal,[],LWS q its dn i k (IntKind.i64.wrap (j+1))⟩))) (.o [!dn.getD j.toNat false] (.r ⟨.normal,[],LWS q its dn i k (IntKind.i64.wrap (j+1))⟩)))) (.r ⟨.exit 4,[],JWS q its dn i k⟩)
theorem lWS (q:Int) (its:List Itm) (dn:List Bool) (i k j:Int):(aFH q its dn i k j).Chk (rd aC5 fWS 4 0 ([]) (LWS q its dn i k j)):=chk (by kernel_rfl)
noncomputable def aH4 (q:Int) (its:List Itm) (dn:List Bool) (i k:Int):Tr RO:=.o [decide (0≤i),decide (i<(↑its.length:Int)),decide (i.toNat<its.length)&&true] (.d 0 false (decide (k<(↑(its.getD i.toNat bM).ks.length:Int))) (.r ⟨.exit 2,[],IWS q its dn i⟩))
theorem eJS (q:Int) (its:List Itm) (dn:List Bool) (i k:Int):(aH4 q its dn i k).Chk (rd aC5 fWS 2 0 [] (JWS q its dn i k)):=chk (by kernel_rfl)
noncomputable def aFO (q:Int) (its:List Itm) (dn:List Bool) (i k:Int):Tr RO:=.o [decide (0≤i),decide (i<(↑its.length:Int)),decide (i.toNat<its.length)&&true] (.b 0 (decide (k<(↑(its.getD i.toNat bM).ks.length:Int))) (.r ⟨.normal,e1 (LWS q its dn i k 0),JWS q its dn i (IntKind.i64.wrap (k+1))⟩) (.r ⟨.exit 2,[],IWS q its dn i⟩))
theorem rJS (q:Int) (its:List Itm) (dn:List Bool) (i k:Int):(aFO q its dn i k).Chk (rd aC5 fWS 2 0 ([(4,⟨aE fWS 4,LWS q its dn i k 0,.normal,JWS q its dn i k⟩)]) (JWS q its dn i k)):=chk (by kernel_rfl)
noncomputable def aG8 (q:Int) (its:List Itm) (dn:List Bool) (i k:Int):Tr RO:=.o [decide (0≤i),decide (i<(↑its.length:Int)),decide (i.toNat<its.length)&&true] (.b 0 (decide (k<(↑(its.getD i.toNat bM).ks.length:Int))) (.r ⟨.ret,e1 (LWS q its dn i k 0),ZWS q its dn i⟩) (.r ⟨.exit 2,[],IWS q its dn i⟩))
theorem sJS (q:Int) (its:List Itm) (dn:List Bool) (i k:Int):(aG8 q its dn i k).Chk (rd aC5 fWS 2 0 ([(4,⟨aE fWS 4,LWS q its dn i k 0,.ret,VWS q its dn i k⟩)]) (JWS q its dn i k)):=chk (by kernel_rfl)
noncomputable def aH6 (q:Int) (its:List Itm) (dn:List Bool) (i:Int):Tr RO:=.d 0 false (decide (i<(↑its.length:Int))) (.r ⟨.exit 0,[],XWS q its dn⟩)
theorem eWS (q:Int) (its:List Itm) (dn:List Bool) (i:Int):(aH6 q its dn i).Chk (rd aC5 fWS 0 0 [] (IWS q its dn i)):=chk (by kernel_rfl)
noncomputable def aFR (q:Int) (its:List Itm) (dn:List Bool) (i:Int):Tr RO:=.b 0 (decide (i<(↑its.length:Int))) (.r ⟨.normal,e1 (JWS q its dn i 0),IWS q its dn (IntKind.i64.wrap (i+1))⟩) (.r ⟨.exit 0,[],XWS q its dn⟩)
theorem rWS (q:Int) (its:List Itm) (dn:List Bool) (i:Int):(aFR q its dn i).Chk (rd aC5 fWS 0 0 ([(2,⟨aE fWS 2,JWS q its dn i 0,.normal,IWS q its dn i⟩)]) (IWS q its dn i)):=chk (by kernel_rfl)
noncomputable def aGA (q:Int) (its:List Itm) (dn:List Bool) (i:Int):Tr RO:=.b 0 (decide (i<(↑its.length:Int))) (.r ⟨.ret,e1 (JWS q its dn i 0),YWS q its dn⟩) (.r ⟨.exit 0,[],XWS q its dn⟩)
theorem sWS (q:Int) (its:List Itm) (dn:List Bool) (i:Int):(aGA q its dn i).Chk (rd aC5 fWS 0 0 ([(2,⟨aE fWS 2,JWS q its dn i 0,.ret,ZWS q its dn i⟩)]) (IWS q its dn i)):=chk (by kernel_rfl)
noncomputable def aFL (q:Int) (its:List Itm) (dn:List Bool):Tr FO:=.o [decide (its.length=its.length),sdI its] (.b 0 (!shB q its) (.o [!shB q its] (.r ⟨AV.c (aI.bool false),[],[]⟩)) (.d 0 true (bif !shB q its then true else(↑dn.length:Int)!=8) (.r ⟨AV.c (aI.bool false),[],[]⟩)))
theorem nWS (q:Int) (its:List Itm) (dn:List Bool):(aFL q its dn).Chk (fo aC5 fWS [] [.agg [.int .i64 q,.view none (.typ .itm its) its.length 2 none,.view none (.bools dn) dn.length 1 none]] []):=chk (by kernel_rfl)
noncomputable def aHO (q:Int) (its:List Itm) (dn:List Bool):Tr FO:=.o [decide (its.length=its.length),sdI its] (.b 0 (!shB q its) (.o [!shB q its] (.r ⟨AV.c (aI.bool false),[],[]⟩)) (.b 0 (bif !shB q its then true else(↑dn.length:Int)!=8) (.r ⟨AV.c (aI.bool false),[],[]⟩) (.r ⟨AV.c (aI.bool true),[],e1 (IWS q its dn 0)⟩)))
theorem xWS (q:Int) (its:List Itm) (dn:List Bool):(aHO q its dn).Chk (fo aC5 fWS ([(0,⟨aE fWS 0,IWS q its dn 0,.normal,XWS q its dn⟩)]) [.agg [.int .i64 q,.view none (.typ .itm its) its.length 2 none,.view none (.bools dn) dn.length 1 none]] []):=chk (by kernel_rfl)
noncomputable def aHZ (q:Int) (its:List Itm) (dn:List Bool):Tr FO:=.o [decide (its.length=its.length),sdI its] (.b 0 (!shB q its) (.o [!shB q its] (.r ⟨AV.c (aI.bool false),[],[]⟩)) (.b 0 (bif !shB q its then true else(↑dn.length:Int)!=8) (.r ⟨AV.c (aI.bool false),[],[]⟩) (.r ⟨AV.c (aI.bool false),[],e1 (IWS q its dn 0)⟩)))
theorem yWS (q:Int) (its:List Itm) (dn:List Bool):(aHZ q its dn).Chk (fo aC5 fWS ([(0,⟨aE fWS 0,IWS q its dn 0,.ret,YWS q its dn⟩)]) [.agg [.int .i64 q,.view none (.typ .itm its) its.length 2 none,.view none (.bools dn) dn.length 1 none]] []):=chk (by kernel_rfl)
def wj (dn:List Bool) (x:PK) (j:Nat):Bool:= !(dn.getD j false&&x.c.getD j false)
theorem aHI {dn:List Bool} (hd:dn.length=8) (x:PK):wk dn x=cL (wj dn x) 8 0:=by
 unfold wk
 rw[Bool.eq_iff_iff,cF,List.all_eq_true]
 constructor
 ·intro h j _ hj
  unfold wj
  cases hb:dn.getD j false with
  |false=>rfl
  |true=>
   obtain⟨i,hi,e⟩:=GB hd (by omega) hb
   have:=h _ (dC (d:=0) hi)
   rw[e,Int.toNat_natCast]at this
   simpa using this
 ·intro h y hy
  obtain⟨i,hi,rfl⟩:=List.getElem_of_mem hy
  obtain⟨a,h1,h2,h3⟩:=rP hd hi
  rw[List.getD_eq_getElem?_getD,List.getElem?_eq_getElem hi,Option.getD_some]at h3
  have:=h a (Nat.zero_le _) (by omega)
  unfold wj at this
  rw[h2]at this
  rw[h3,Int.toNat_natCast]
  simpa using this
theorem lLW (q:Int) (its:List Itm) (dn:List Bool) (i k:Nat) (hd:dn.length=8) (hi:i<its.length) (hk:k<(its.getD i bM).ks.length) (h8:((its.getD i bM).ks.getD k PK0).c.length=8):
  aP none Tryz.prog 0 (.block 4 (.loop (aC 4 (aB fWS)))) (LWS q its dn i k 0) fun e t=>e=(bif wk dn ((its.getD i bM).ks.getD k PK0)then .normal else .ret)∧t=bif wk dn ((its.getD i bM).ks.getD k PK0)then JWS q its dn i k else VWS q its dn i k:=by
 rw[aHI hd]
 refine aD0 aCK (n:=8) (I:=fun j=>LWS q its dn i k j) (.inr rfl) (lc:=fun _=>[]) (fun _ _=>aL.nil) (fun j=>lWS q its dn i k j) (lWS q its dn i k (8:Nat)) (fun j hj=> ?_) ?_
 ·have hw:IntKind.i64.wrap ((j:Int)+1)=((j+1:Nat):Int):=by rw[aF (by omega) (by omega)];rfl
  simp only[aFH,fS,Int.toNat_natCast,hw]
  unfold wj
  grind
 ·simp only[aFH,fS];grind
theorem aI9 (q:Int) (its:List Itm) (dn:List Bool) (i:Nat) (hd:dn.length=8) (hi:i<its.length) (hl:(its.getD i bM).ks.length≤274877906944) (h8: ∀x∈(its.getD i bM).ks,x.c.length=8):
  aP none Tryz.prog 0 (.block 2 (.loop (aC 2 (aB fWS)))) (JWS q its dn i 0) fun e t=>e=(bif wi dn (its.getD i bM)then .normal else .ret)∧t=bif wi dn (its.getD i bM)then IWS q its dn i else ZWS q its dn i:=by
 unfold wi
 rw[←AL (d:=PK0)]
 refine aD0 aCK (I:=fun k=>JWS q its dn i k) (.inr rfl) (lc:=fun k=>lcB (wk dn ((its.getD i bM).ks.getD k PK0)) 4 (aE fWS 4) (LWS q its dn i k 0) (JWS q its dn i k) (VWS q its dn i k))
  (R:=fun k=>bif wk dn ((its.getD i bM).ks.getD k PK0)then aFO q its dn i k else aG8 q its dn i k) (fun k hk=>aCN (lLW q its dn i k hd hi hk (h8 _ (dC hk))) (by kernel_rfl)) (fun k=>aFD (rJS q its dn i k) (sJS q its dn i k)) (eJS q its dn i (its.getD i bM).ks.length) (fun k hk=> ?_) ?_
 ·have hw:IntKind.i64.wrap ((k:Int)+1)=((k+1:Nat):Int):=by rw[aF (by omega) (by omega)];rfl
  cases hb:wk dn ((its.getD i bM).ks.getD k PK0)<;>simp only[cond_true,cond_false,aFO,aG8,fS,Int.toNat_natCast,hw]<;>grind
 ·simp only[aH4,fS,Int.toNat_natCast];grind
theorem aIA (q:Int) (its:List Itm) (dn:List Bool) (hd:dn.length=8) (hs:sdI its=true) (h:shB q its=true):
  aP none Tryz.prog 0 (.block 0 (.loop (aC 0 (aB fWS)))) (IWS q its dn 0) fun e t=>e=(bif its.all (wi dn)then .normal else .ret)∧t=bif its.all (wi dn)then XWS q its dn else YWS q its dn:=by
 obtain⟨hn,hk⟩:=l6 hs
 have hn8:its.length≤274877906944:=hn
 rw[←AL (d:=bM)]
 refine aD0 aCK (I:=fun i=>IWS q its dn i) (.inr rfl) (lc:=fun i=>lcB (wi dn (its.getD i bM)) 2 (aE fWS 2) (JWS q its dn i 0) (IWS q its dn i) (ZWS q its dn i))
  (R:=fun i=>bif wi dn (its.getD i bM)then aFR q its dn i else aGA q its dn i) (fun i hi=>aCN (aI9 q its dn i hd hi (rU (hk i)).1 fun x hx=>aEF h hi hx) (by kernel_rfl)) (fun i=>aFD (rWS q its dn i) (sWS q its dn i)) (eWS q its dn its.length) (fun i hi=> ?_) ?_
 ·have hw:IntKind.i64.wrap ((i:Int)+1)=((i+1:Nat):Int):=by rw[aF (by omega) (by omega)];rfl
  cases hb:wi dn (its.getD i bM)<;>simp only[cond_true,cond_false,aFR,aGA,fS,Int.toNat_natCast,hw]<;>grind
 ·simp only[aH6,fS];grind
def aFA:aO:=fun args h=>
 match args,h with
 |[.agg [.int .i64 q,.view _ (.typ .itm its) n 2 _,.view _ (.bools dn) n2 1 _]],[]=>
  some (.c (.bool (woB q its dn)),[],[decide (n=its.length),sdI its,decide (n2=dn.length)])
 |_,_=>none
theorem mWS:aT Tryz.prog 23 aFA:=by
 intro args h res h' o hnorm he ho
 unfold aFA at he
 split at he
 case h_2=>cases he
 rename_i q nl its n cap nl2 dn n2 cap2
 simp only[Option.some.injEq,Prod.mk.injEq]at he
 obtain⟨rfl,rfl,rfl⟩:=he
 simp only[List.mem_cons,List.not_mem_nil,or_false,forall_eq_or_imp,forall_eq,decide_eq_true_eq]at ho
 obtain⟨o1,o2,o3⟩:=ho
 simp only[b8,AV.norm,bA,aI.norm,Con.size,List.cons.injEq,AV.c.injEq,AV.agg.injEq,aI.view.injEq,aN,true_and,and_true]at hnorm
 obtain⟨⟨rfl,_,rfl⟩,rfl,_,rfl⟩:=hnorm
 subst o1 o3
 unfold woB
 cases c1:shB q its with
 |false=>exact aC0 aCK (nWS q its dn) (by simp only[aFL,fS,c1,o2];grind)
 |true=>
  cases c2:(dn.length:Int)==8 with
  |false=>exact aC0 aCK (nWS q its dn) (by simp only[aFL,fS,c1,c2,o2,bne];grind)
  |true=>
   have hd:dn.length=8:=by have:=beq_iff_eq.1 c2;omega
   exact aC0 aCK (aGR (xWS q its dn) (yWS q its dn)) (by cases hb:its.all (wi dn)<;>simp only[cond_true,cond_false,aHO,aHZ,fS,c1,c2,bne,o2]<;>grind) (aHB (aIA q its dn hd o2 c1) (by kernel_rfl))
noncomputable def aDK:List aZ:=[⟨25,[],nm aF9⟩,⟨23,[],nm aFA⟩]++aC5
theorem aGV:aA Tryz.prog aDK:=by
 refine aA.append ?_ aGU
 intro e he
 simp only[List.mem_cons,List.not_mem_nil,or_false]at he
 rcases he with rfl|rfl
 ·exact mWI.ok
 ·exact mWS.ok
theorem aGC:bL Tryz.prog (aH aDK):=aQ aGV
end
section
noncomputable def aI1 (q:Int) (its:List Itm) (dn:List Bool) (l:Int):Tr FO:=.o [decide (its.length=its.length),F6 its,decide (0≤l),decide (l≤1048576)] (.b 0 (decide (szF l (rF its)<0)) (.r ⟨AV.c (aI.int IntKind.i64 (-1)),[],[]⟩) (.o [decide (dn.length≤9223372036854775807),decide (0≤szF l (rF its)),decide (szF l (rF its)≤1048576)] (.b 0 (decide (szF (szF l (rF its)) dn.length<0)) (.r ⟨AV.c (aI.int IntKind.i64 (-1)),[],[]⟩) (.r ⟨AV.c (aI.int IntKind.i64 (szF (szF l (rF its)) dn.length)),[],[]⟩))))
theorem zZW (q:Int) (its:List Itm) (dn:List Bool) (l:Int):(aI1 q its dn l).Chk (fo aDK Tryz.f22 ([]) [.agg [.int .i64 q,.view none (.typ .itm its) its.length 2 none,.view none (.bools dn) dn.length 1 none],.c (.int .i64 l)] []):=chk (by kernel_rfl)
def aD7:aO:=fun args h=>
 match args,h with
 |[.agg [.int .i64 q,.view _ (.typ .itm its) n 2 _,.view _ (.bools dn) n2 1 _],.c (.int .i64 l)],[]=>
  some (.c (.int .i64 (szF l (rF its+dn.length))),[],[decide (n=its.length),F6 its,decide (n2=dn.length),decide (dn.length≤9223372036854775807),decide (0≤l),decide (l≤1048576)])
 |_,_=>none
theorem mZW:aT Tryz.prog 22 aD7:=by
 intro args h res h' o hnorm he ho
 unfold aD7 at he
 split at he
 case h_2=>cases he
 rename_i q nl its n cap nl2 dn n2 cap2 l
 simp only[Option.some.injEq,Prod.mk.injEq]at he
 obtain⟨rfl,rfl,rfl⟩:=he
 simp only[List.mem_cons,List.not_mem_nil,or_false,forall_eq_or_imp,forall_eq,decide_eq_true_eq]at ho
 obtain⟨o1,o2,o3,o4,o5,o6⟩:=ho
 simp only[b8,AV.norm,bA,aI.norm,Con.size,List.cons.injEq,AV.c.injEq,AV.agg.injEq,aI.view.injEq,aN,true_and,and_true]at hnorm
 obtain⟨⟨rfl,_,rfl⟩,rfl,_,rfl⟩:=hnorm
 subst o1 o3
 refine aC0 aGC (zZW q its dn l) ?_
 have a1:=decide_eq_true o4
 simp only[aI1,fS,o2,a1]
 unfold szF
 grind
noncomputable def aEK:List aZ:=[⟨22,[],nm aD7⟩,⟨24,[],dW tt (aH aDK) Tryz.f24 []⟩,⟨26,[],dW tt (aH aDK) Tryz.f26 [(0,false),(0,false)]⟩]++aDK
theorem aGW:aA Tryz.prog aEK:=by
 refine aA.append ?_ aGV
 intro e he
 simp only[List.mem_cons,List.not_mem_nil,or_false]at he
 rcases he with rfl|rfl|rfl
 ·exact mZW.ok
 ·exact cJ hT aGC bE [] (by kernel_rfl) (by kernel_rfl)
 ·exact cJ hT aGC bE [(0,false),(0,false)] (by kernel_rfl) (by kernel_rfl)
theorem aIV:bL Tryz.prog (aH aEK):=aQ aGW
end
section
noncomputable def aEL:List aZ:=[⟨171,[],dW tt (aH aEK) Tryz.f171 []⟩]++aEK
theorem aGX:aA Tryz.prog aEL:=by
 refine aA.append ?_ aGW
 intro e he
 simp only[List.mem_cons,List.not_mem_nil,or_false]at he
 subst he;exact cJ hT aIV bE [] (by kernel_rfl) (by kernel_rfl)
theorem aIW:bL Tryz.prog (aH aEL):=aQ aGX
noncomputable def aI0 (x y:ByteArray):Tr FO:=.b 0 (!hZ x x) (.b 0 (!hZ y y) (.r ⟨AV.c (aI.int IntKind.i64 0),[],[]⟩) (.r ⟨AV.c (aI.int IntKind.i64 (-1)),[],[]⟩)) (.b 0 (!hZ y y) (.r ⟨AV.c (aI.int IntKind.i64 1),[],[]⟩) (.b 0 (cX x y) (.r ⟨AV.c (aI.int IntKind.i64 (-1)),[],[]⟩) (.b 0 (!(cX x y||hZ x y)) (.r ⟨AV.c (aI.int IntKind.i64 1),[],[]⟩) (.r ⟨AV.c (aI.int IntKind.i64 0),[],[]⟩))))
theorem zCM (x y:ByteArray):(aI0 x y).Chk (fo aEL Tryz.f125 ([]) [.c (.str x),.c (.str y)] []):=chk (by kernel_rfl)
theorem aC8 {x y:ByteArray}:hZ x y=true↔x=y:=by
 unfold hZ
 rw[beq_iff_eq]
 constructor
 ·intro h
  rw[ByteArray.toList_eq,ByteArray.toList_eq]at h
  exact ByteArray.ext (Array.toList_inj.1 h)
 ·intro h;rw[h]
def aCZ (x y:ByteArray):Int:=bif cX x y then -1 else bif hZ x y then 0 else 1
def aF5:aO:=fun args h=>
 match args,h with
 |[.c (.str x),.c (.str y)],[]=>
  some (.c (.int .i64 (aCZ x y)),[],[])
 |_,_=>none
theorem mCM:aR Tryz.prog 125 aF5:=by
 intro args h res h' o he ho
 unfold aF5 at he
 split at he
 case h_2=>cases he
 rename_i x y
 simp only[Option.some.injEq,Prod.mk.injEq]at he
 obtain⟨rfl,rfl,rfl⟩:=he
 refine aC0 aIW (zCM x y) ?_
 have hx:=aC8.2 (rfl:x=x)
 have hy:=aC8.2 (rfl:y=y)
 simp only[aI0,fS,hx,hy]
 unfold aCZ
 cases cX x y<;>cases hZ x y<;>simp
noncomputable def aEM:List aZ:=[⟨125,[],aF5⟩]++aEL
theorem aGY:aA Tryz.prog aEM:=by
 refine aA.append ?_ aGX
 intro e he
 simp only[List.mem_cons,List.not_mem_nil,or_false]at he
 subst he;exact mCM
theorem aIX:bL Tryz.prog (aH aEM):=aQ aGY
noncomputable def aE5:List aZ:=[⟨124,[],dW tt (aH aEM) Tryz.f124 []⟩]++aEM
theorem aGZ:aA Tryz.prog aE5:=by
 refine aA.append ?_ aGY
 intro e he
 simp only[List.mem_cons,List.not_mem_nil,or_false]at he
 subst he;exact cJ hT aIX bE [] (by kernel_rfl) (by kernel_rfl)
theorem aHG:bL Tryz.prog (aH aE5):=aQ aGZ
noncomputable abbrev fBS:=Tryz.f123
noncomputable def IBS (its:List Itm) (nm:ByteArray) (i j:Int):St:=aS fBS.ntmps [(0,.c (.view none (.typ .itm its) its.length 2 none)),(1,.c (.str nm)),(2,.c (.fn 124 [])),(8,.c (.int .i64 (its.length:Int))),(9,.c (.int .i64 i)),(10,.c (.int .i64 j))] []
noncomputable def XBS (its:List Itm) (nm:ByteArray) (i:Int):St:=aS fBS.ntmps [(0,.c (.view none (.typ .itm its) its.length 2 none)),(1,.c (.str nm)),(2,.c (.fn 124 [])),(8,.c (.int .i64 (its.length:Int))),(9,.c (.int .i64 i))] []
noncomputable def aHD (its:List Itm) (nm:ByteArray) (i j:Int):Tr RO:=.b 0 (decide (i<j)) (.o [decide (0≤IntKind.i64.wrap ((IntKind.u64.wrap (IntKind.i64.wrap (i+j))).fdiv 2)),decide (IntKind.i64.wrap ((IntKind.u64.wrap (IntKind.i64.wrap (i+j))).fdiv 2)<(↑its.length:Int)),decide ((IntKind.i64.wrap ((IntKind.u64.wrap (IntKind.i64.wrap (i+j))).fdiv 2)).toNat<its.length)&&true] (.b 0 (decide (aCZ (its.getD ((IntKind.i64.wrap ((IntKind.u64.wrap (IntKind.i64.wrap (i+j))).fdiv 2)).toNat) bM).1 nm<0)) (.r ⟨.normal,[],IBS its nm (IntKind.i64.wrap (IntKind.i64.wrap ((IntKind.u64.wrap (IntKind.i64.wrap (i+j))).fdiv 2)+1)) (j)⟩) (.r ⟨.normal,[],IBS its nm (i) (IntKind.i64.wrap ((IntKind.u64.wrap (IntKind.i64.wrap (i+j))).fdiv 2))⟩))) (.r ⟨.exit 0,[],XBS its nm (i)⟩)
theorem rBS (its:List Itm) (nm:ByteArray) (i j:Int):(aHD its nm i j).Chk (rd aE5 fBS 0 0 ([]) (IBS its nm i j)):=chk (by kernel_rfl)
noncomputable def aHJ (its:List Itm) (nm:ByteArray) (k:Nat):Tr FO:=.b 0 (decide ((↑k:Int)<(↑its.length:Int))) (.o [decide ((↑k:Int)<(↑its.length:Int)),decide ((↑k:Int).toNat<its.length)&&true] (.r ⟨AV.tup [AV.c (aI.int IntKind.i64 (↑k:Int)),AV.c (aI.bool (bif decide ((↑k:Int)<(↑its.length:Int))then aCZ (its.getD ((↑k:Int).toNat) bM).1 nm==0 else false))],[],e1 (IBS its nm 0 (its.length:Int))⟩)) (.o [!decide ((↑k:Int)<(↑its.length:Int))] (.r ⟨AV.tup [AV.c (aI.int IntKind.i64 (↑k:Int)),AV.c (aI.bool false)],[],e1 (IBS its nm 0 (its.length:Int))⟩))
theorem xBS (its:List Itm) (nm:ByteArray) (k:Nat):(aHJ its nm k).Chk (fo aE5 fBS ([(0,⟨aE fBS 0,IBS its nm 0 (its.length:Int),.normal,XBS its nm k⟩)]) [.c (.view none (.typ .itm its) its.length 2 none),.c (.str nm),.c (.fn 124 [])] []):=chk (by kernel_rfl)
def bsG (its:List Itm) (nm:ByteArray):Nat→Nat→Nat→Nat
 |0,i,_=>i
 |f+1,i,j=>bif decide (i<j)then(bif cX (its.getD ((i+j)/2) bM).nm nm then bsG its nm f ((i+j)/2+1) j else bsG its nm f i ((i+j)/2))else i
def fiK (its:List Itm) (nm:ByteArray):Nat:=bsG its nm its.length 0 its.length
def fiB (its:List Itm) (nm:ByteArray):Bool:=decide (fiK its nm<its.length)&&hZ (its.getD (fiK its nm) bM).nm nm
theorem aCA (its:List Itm) (nm:ByteArray): ∀(f g i j:Nat),j-i≤f→j-i≤g→bsG its nm f i j=bsG its nm g i j
 |0,0,_,_,_,_=>rfl
 |0,g+1,i,j,h,_=>by simp only[bsG];rw[decide_eq_false (by omega)];rfl
 |f+1,0,i,j,_,h=>by simp only[bsG];rw[decide_eq_false (by omega)];rfl
 |f+1,g+1,i,j,h1,h2=>by
  simp only[bsG]
  by_cases h:i<j
  ·rw[aCA its nm f g ((i+j)/2+1) j (by omega) (by omega),aCA its nm f g i ((i+j)/2) (by omega) (by omega)]
  ·rw[decide_eq_false h];rfl
theorem aE9 (x y:ByteArray):decide (aCZ x y<0)=cX x y:=by unfold aCZ;cases cX x y<;>cases hZ x y<;>rfl
theorem aCD {x y:ByteArray}:cX x y=decide (x.toList<y.toList):=by unfold cX;exact bytesLess_eq _ _
theorem aDM (x y:ByteArray):(aCZ x y==0)=hZ x y:=by
 unfold aCZ
 cases h:hZ x y with
 |true=>
  rw[aC8]at h
  subst h
  rw[aCD,decide_eq_false (by exact List.lt_irrefl _)];rfl
 |false=>cases cX x y<;>rfl
theorem aEX {i j:Nat} (h:i+j≤1099511627776):IntKind.i64.wrap ((IntKind.u64.wrap (IntKind.i64.wrap ((i:Int)+j))).fdiv 2)=(((i+j)/2:Nat):Int):=by
 rw[aF (i:=(i:Int)+j) (by omega) (by omega)]
 have e:IntKind.u64.wrap ((i:Int)+j)=((i+j:Nat):Int):=by
  simp only[IntKind.wrap_u64];omega
 rw[e,show(((i+j:Nat):Int)).fdiv 2=(((i+j)/2:Nat):Int)from by rw[Int.fdiv_eq_ediv_of_nonneg _ (by omega)];rfl]
 exact aF (by omega) (by omega)
theorem lBS (its:List Itm) (nm:ByteArray) (hn:its.length≤274877906944):aP none Tryz.prog 0 (.block 0 (.loop (aC 0 (aB fBS)))) (IBS its nm 0 (its.length:Int)) fun e t=>e=.normal∧t=XBS its nm (fiK its nm:Nat):=by
 refine aHC aHG (α:=Nat×Nat) (Inv:=fun x=>x.1≤its.length∧x.2≤its.length) (I:=fun x=>IBS its nm x.1 x.2) (μ:=fun x=>x.2-x.1) (post:=fun x=>XBS its nm (bsG its nm (x.2-x.1) x.1 x.2:Nat)) (fun x=>rBS its nm x.1 x.2) (fun x hx=> ?_) (0,its.length) ⟨Nat.zero_le _,Nat.le_refl _⟩
 obtain⟨i,j⟩:=x
 obtain⟨h1,h2⟩:=hx
 dsimp only at h1 h2⊢
 have hh:=aEX (i:=i) (j:=j) (by omega)
 simp only[aHD,fS,hh,Int.toNat_natCast,aE9]
 refine⟨fun h=> ?_,fun h=> ?_⟩
 ·have h:=of_decide_eq_true h
  have hw:IntKind.i64.wrap ((((i+j)/2:Nat):Int)+1)=(((i+j)/2+1:Nat):Int):=by rw[aF (by omega) (by omega)];rfl
  have hl:(i+j)/2<its.length:=by omega
  refine⟨⟨decide_eq_true (by omega),decide_eq_true (by omega),decide_eq_true hl⟩,fun hc=> .inl ⟨((i+j)/2+1,j),⟨by dsimp only;omega,h2⟩,by dsimp only;omega,by rw[hw], ?_⟩,fun hc=> .inl ⟨(i,(i+j)/2),⟨h1,by dsimp only;omega⟩,by dsimp only;omega,rfl, ?_⟩⟩
  ·dsimp only
   rw[show j-i=(j-i-1)+1 from by omega]
   simp only[bsG,decide_eq_true (show i<j by omega),hc,cond_true]
   rw[aCA its nm _ (j-i-1) _ _ (Nat.le_refl _) (by omega)]
  ·dsimp only
   rw[show j-i=(j-i-1)+1 from by omega]
   simp only[bsG,decide_eq_true (show i<j by omega),hc,cond_true,cond_false]
   rw[aCA its nm _ (j-i-1) _ _ (Nat.le_refl _) (by omega)]
 ·have h:=of_decide_eq_false h
  exact .inr (by rw[show j-i=0 from by omega];rfl)
def aF4:aO:=fun args h=>
 match args,h with
 |[.c (.view _ (.typ .itm its) n 2 _),.c (.str nm),.c (.fn 124 [])],[]=>
  some (.tup [.c (.int .i64 (fiK its nm:Nat)),.c (.bool (fiB its nm))],[],[decide (n=its.length),decide (its.length≤274877906944)])
 |_,_=>none
theorem mBS:aT Tryz.prog 123 aF4:=by
 intro args h res h' o hnorm he ho
 unfold aF4 at he
 split at he
 case h_2=>cases he
 rename_i nl its n cap nm
 simp only[Option.some.injEq,Prod.mk.injEq]at he
 obtain⟨rfl,rfl,rfl⟩:=he
 simp only[List.mem_cons,List.not_mem_nil,or_false,forall_eq_or_imp,forall_eq,decide_eq_true_eq]at ho
 obtain⟨o1,o2⟩:=ho
 simp only[b8,AV.norm,bA,aI.norm,Con.size,List.cons.injEq,AV.c.injEq,AV.agg.injEq,aI.view.injEq,aN,true_and,and_true]at hnorm
 obtain⟨rfl,_,rfl⟩:=hnorm
 subst o1
 refine aC0 aHG (xBS its nm (fiK its nm)) ?_ (lc1 (by kernel_rfl) (lBS its nm o2))
 have e:decide (((fiK its nm:Nat):Int)<(its.length:Int))=decide (fiK its nm<its.length):=by simp
 simp only[aHJ,fS,Int.toNat_natCast,e,aDM]
 unfold fiB
 cases decide (fiK its nm<its.length)<;>simp
noncomputable def aEN:List aZ:=[⟨123,[],nm aF4⟩]++aE5
theorem aH0:aA Tryz.prog aEN:=by
 refine aA.append ?_ aGZ
 intro e he
 simp only[List.mem_cons,List.not_mem_nil,or_false]at he
 subst he;exact mBS.ok
theorem aIY:bL Tryz.prog (aH aEN):=aQ aH0
noncomputable def aDL:List aZ:=[⟨73,[],dW tt (aH aEN) Tryz.f73 []⟩]++aEN
theorem aH1:aA Tryz.prog aDL:=by
 refine aA.append ?_ aH0
 intro e he
 simp only[List.mem_cons,List.not_mem_nil,or_false]at he
 subst he;exact cJ hT aIY bE [] (by kernel_rfl) (by kernel_rfl)
theorem aGD:bL Tryz.prog (aH aDL):=aQ aH1
noncomputable abbrev fLA:=Tryz.f72
noncomputable def ILA (q:Int) (its:List Itm) (nm:ByteArray) (i:Int):St:=aS fLA.ntmps [(1,.c (.str nm)),(2,.c (.ptr 0 0 0 0)),(5,.c (.int .i64 i))] [.live (.cells [.int .i64 q,.view none (.typ .itm its) its.length 2 none])]
noncomputable def XLA (q:Int) (its:List Itm) (nm:ByteArray):St:=aS fLA.ntmps [] []
noncomputable def YLA (q:Int) (its:List Itm) (nm:ByteArray) (i:Int):St:=aS fLA.ntmps [(4,.c (.int .i64 i))] []
noncomputable def aFP (q:Int) (its:List Itm) (nm:ByteArray) (i:Int):Tr RO:=.b 0 (decide (i<(↑its.length:Int))) (.o [decide (0≤i),decide (i<(↑its.length:Int)),decide (i.toNat<its.length)&&true] (.b 0 (hZ (its.getD i.toNat bM).1 nm) (.r ⟨.ret,[],YLA q its nm (i)⟩) (.r ⟨.normal,[],ILA q its nm (IntKind.i64.wrap (i+1))⟩))) (.r ⟨.exit 0,[],XLA q its nm⟩)
theorem rLA (q:Int) (its:List Itm) (nm:ByteArray) (i:Int):(aFP q its nm i).Chk (rd aDL fLA 0 0 ([]) (ILA q its nm i)):=chk (by kernel_rfl)
noncomputable def aHM (q:Int) (its:List Itm) (nm:ByteArray):Tr FO:=.r ⟨AV.c (aI.int IntKind.i64 (-1)),[],e1 (ILA q its nm 0)⟩
theorem xLA (q:Int) (its:List Itm) (nm:ByteArray):(aHM q its nm).Chk (fo aDL fLA ([(0,⟨aE fLA 0,ILA q its nm 0,.normal,XLA q its nm⟩)]) [.agg [.int .i64 q,.view none (.typ .itm its) its.length 2 none],.c (.str nm)] []):=chk (by kernel_rfl)
noncomputable def aHX (q:Int) (its:List Itm) (nm:ByteArray) (j:Nat):Tr FO:=.r ⟨AV.c (aI.int IntKind.i64 (↑j:Int)),[],e1 (ILA q its nm 0)⟩
theorem yLA (q:Int) (its:List Itm) (nm:ByteArray) (j:Nat):(aHX q its nm j).Chk (fo aDL fLA ([(0,⟨aE fLA 0,ILA q its nm 0,.ret,YLA q its nm j⟩)]) [.agg [.int .i64 q,.view none (.typ .itm its) its.length 2 none],.c (.str nm)] []):=chk (by kernel_rfl)
def atE (its:List Itm) (nm:ByteArray):Unit⊕Nat:=cG (β:=Unit) (γ:=Nat) (fun i _=>bif hZ (its.getD i bM).nm nm then .inr i else .inl ()) its.length 0 ()
def atR (its:List Itm) (nm:ByteArray):Int:=match atE its nm with
 |.inl _=> -1
 |.inr j=>j
def aF8:aO:=fun args h=>
 match args,h with
 |[.agg [.int .i64 q,.view _ (.typ .itm its) n 2 _],.c (.str nm)],[]=>
  some (.c (.int .i64 (atR its nm)),[],[decide (n=its.length),decide (its.length≤274877906944)])
 |_,_=>none
theorem mLA:aT Tryz.prog 72 aF8:=by
 intro args h res h' o hnorm he ho
 unfold aF8 at he
 split at he
 case h_2=>cases he
 rename_i q nl its n cap nm
 simp only[Option.some.injEq,Prod.mk.injEq]at he
 obtain⟨rfl,rfl,rfl⟩:=he
 simp only[List.mem_cons,List.not_mem_nil,or_false,forall_eq_or_imp,forall_eq,decide_eq_true_eq]at ho
 obtain⟨o1,o2⟩:=ho
 simp only[b8,AV.norm,bA,aI.norm,Con.size,List.cons.injEq,AV.c.injEq,AV.agg.injEq,aI.view.injEq,aN,true_and,and_true]at hnorm
 obtain⟨rfl,_,rfl⟩:=hnorm
 subst o1
 have g:=aF2 aGD (fn:=fLA) (id:=0) (m:=0) (n:=its.length) (Inv:=fun _ _=>True) (step:=fun i _=>bif hZ (its.getD i bM).nm nm then .inr i else .inl ()) (I:=fun i (_:Unit)=>ILA q its nm i) (X:=fun _=>XLA q its nm) (Y:=fun j:Nat=>YLA q its nm j) (.inr rfl) (lc:=fun _ _=>[]) (fun _ _ _ _=>aL.nil) (fun i _=>rLA q its nm i) (fun _=>rLA q its nm its.length) (fun i _ hi _=> ?_) (fun _ _=> ?_) () trivial
 ·unfold atR atE
  generalize cG _ its.length 0 ()=r at g
  rcases r with r|j
  ·exact aC0 aGD (xLA q its nm) (by simp only[aHM,fS]) (lc1 (by kernel_rfl) g)
  ·exact aC0 aGD (yLA q its nm j) (by simp only[aHX,fS]) (lc1 (by kernel_rfl) g)
 ·have hw:IntKind.i64.wrap ((i:Int)+1)=((i+1:Nat):Int):=by rw[aF (by omega) (by omega)];rfl
  simp only[aFP,fS,Int.toNat_natCast,hw]
  grind
 ·simp only[aFP,fS];grind
noncomputable def aE6:List aZ:=[⟨72,[],nm aF8⟩]++aDL
theorem aH2:aA Tryz.prog aE6:=by
 refine aA.append ?_ aH1
 intro e he
 simp only[List.mem_cons,List.not_mem_nil,or_false]at he
 subst he;exact mLA.ok
theorem aHH:bL Tryz.prog (aH aE6):=aQ aH2
noncomputable def aF0 (q:Int) (its:List Itm) (nm:ByteArray):Tr FO:=.o [decide (its.length=its.length)&&(decide (its.length≤274877906944)&&true),decide (its.length=its.length),sdI its] (.b 0 (!shB q its) (.o [!shB q its] (.r ⟨AV.tup [AV.c (aI.str {data:= #[]}),AV.c (aI.bool false)],[],[]⟩)) (.b 0 (bif !shB q its then true else !fiB its nm) (.r ⟨AV.tup [AV.c (aI.str {data:= #[]}),AV.c (aI.bool false)],[],[]⟩) (.o [decide ((↑(fiK its nm):Int)<(↑its.length:Int)),decide ((↑(fiK its nm):Int).toNat<its.length)&&true,decide ((its.getD (↑(fiK its nm):Int).toNat bM).ks.length=(its.getD (↑(fiK its nm):Int).toNat bM).2.length),sdK (its.getD (↑(fiK its nm):Int).toNat bM).2] (.r ⟨AV.tup [AV.c (aI.str (itS (its.getD (↑(fiK its nm):Int).toNat bM).2)),AV.c (aI.bool (itB (its.getD (↑(fiK its nm):Int).toNat bM).2))],[],[]⟩))))
theorem xGI (q:Int) (its:List Itm) (nm:ByteArray):(aF0 q its nm).Chk (fo aE6 Tryz.f28 ([]) [.agg [.int .i64 q,.view none (.typ .itm its) its.length 2 none],.c (.str nm)] []):=chk (by kernel_rfl)
noncomputable def aF1 (q:Int) (its:List Itm) (nm:ByteArray):Tr FO:=.o [decide (its.length=its.length),sdI its] (.b 0 (!shB q its) (.o [!shB q its] (.r ⟨AV.tup [AV.c (aI.str {data:= #[]}),AV.c (aI.bool false)],[],[]⟩)) (.o [decide (its.length=its.length),decide (its.length≤274877906944)] (.b 0 (bif !shB q its then true else decide (atR its nm<0)) (.r ⟨AV.tup [AV.c (aI.str {data:= #[]}),AV.c (aI.bool false)],[],[]⟩) (.o [decide (its.length=its.length),decide (its.length≤274877906944),decide (0≤atR its nm),decide (atR its nm<(↑its.length:Int)),decide ((atR its nm).toNat<its.length)&&true,decide ((its.getD (atR its nm).toNat bM).ks.length=(its.getD (atR its nm).toNat bM).2.length),sdK (its.getD (atR its nm).toNat bM).2,(its.getD (atR its nm).toNat bM).2.all okR] (.r ⟨AV.tup [AV.c (aI.str (itS (its.getD (atR its nm).toNat bM).2)),AV.c (aI.bool (itB (its.getD (atR its nm).toNat bM).2))],[],[]⟩)))))
theorem xGS (q:Int) (its:List Itm) (nm:ByteArray):(aF1 q its nm).Chk (fo aE6 Tryz.f27 ([]) [.agg [.int .i64 q,.view none (.typ .itm its) its.length 2 none],.c (.str nm)] []):=chk (by kernel_rfl)
end
section
theorem aC9 (f:Nat→Bool): ∀k i,match cG (β:=Unit) (γ:=Nat) (fun i _=>bif f i then .inr i else .inl ()) k i ()with
  |.inl _=> ∀t,i≤t→t<i+k→f t=false
  |.inr j=>i≤j∧j<i+k∧f j=true∧ ∀t,i≤t→t<j→f t=false
 |0,i=>fun t h1 h2=>by omega
 |k+1,i=>by
  simp only[cG]
  cases h:f i with
  |true=>exact⟨Nat.le_refl _,by omega,h,fun t h1 h2=>by omega⟩
  |false=>
   have:=aC9 f k (i+1)
   simp only[cond_false]
   split
   ·rename_i e
    rw[e]at this
    intro t h1 h2
    by_cases e:t=i
    ·rw[e];exact h
    ·exact this t (by omega) (by omega)
   ·rename_i j e
    rw[e]at this
    obtain⟨h1,h2,h3,h4⟩:=this
    refine⟨by omega,by omega,h3,fun t g1 g2=> ?_⟩
    by_cases e:t=i
    ·rw[e];exact h
    ·exact h4 t (by omega) g2
abbrev nmL (its:List Itm) (i:Nat):List UInt8:=(its.getD i bM).nm.toList
theorem aDD {q:Int} {its:List Itm} (h:shB q its=true): ∀j i,i<j→j<its.length→nmL its i<nmL its j
 |0,i,h1,_=>by omega
 |j+1,i,h1,h2=>by
  unfold shB at h
  rw[Bool.and_eq_true]at h
  have h3:=cF.1 h.1 (j+1) (Nat.zero_le _) (by omega)
  unfold tI HW at h3
  simp only[Bool.and_eq_true,rpS,Bool.not_eq_true',Bool.and_eq_false_iff,decide_eq_false_iff_not,Nat.add_sub_cancel]at h3
  have h4:nmL its j<nmL its (j+1):=by
   rcases h3.2.2 with h5|h5
   ·omega
   ·rw[aCD,Bool.not_eq_false']at h5;exact of_decide_eq_true h5
  by_cases e:i=j
  ·rw[e];exact h4
  ·refine List.lt_trans (aDD (by unfold shB;rw[Bool.and_eq_true];exact h) j i (by omega) (by omega)) h4
theorem aCH {its:List Itm} {nm:ByteArray} (hs: ∀j i,i<j→j<its.length→nmL its i<nmL its j): ∀f i j,j≤its.length→i≤j→j-i≤f→(∀t,t<i→nmL its t<nm.toList)→(∀t,j≤t→t<its.length→ ¬nmL its t<nm.toList)→
  bsG its nm f i j≤its.length∧(∀t,t<bsG its nm f i j→nmL its t<nm.toList)∧ ∀t,bsG its nm f i j≤t→t<its.length→ ¬nmL its t<nm.toList
 |0,i,j,h1,h2,h3,h4,h5=>by
  have:i=j:=by omega
  subst this
  exact⟨h1,h4,h5⟩
 |f+1,i,j,h1,h2,h3,h4,h5=>by
  simp only[bsG]
  cases hij:decide (i<j)with
  |false=>
   have:=of_decide_eq_false hij
   have:i=j:=by omega
   subst this
   exact⟨h1,h4,h5⟩
  |true=>
   have:=of_decide_eq_true hij
   simp only[cond_true]
   cases hc:cX (its.getD ((i+j)/2) bM).nm nm with
   |true=>
    rw[aCD]at hc
    have hc:nmL its ((i+j)/2)<nm.toList:=of_decide_eq_true hc
    refine aCH hs f _ j h1 (by omega) (by omega) (fun t ht=> ?_) h5
    by_cases e:t=(i+j)/2
    ·rw[e];exact hc
    ·exact List.lt_trans (hs _ t (by omega) (by omega)) hc
   |false=>
    rw[aCD]at hc
    have hc: ¬nmL its ((i+j)/2)<nm.toList:=of_decide_eq_false hc
    refine aCH hs f i _ (by omega) (by omega) (by omega) h4 (fun t h6 h7 h8=> ?_)
    by_cases e:t=(i+j)/2
    ·rw[e]at h8;exact hc h8
    ·exact hc (List.lt_trans (hs t _ (by omega) h7) h8)
theorem aEA {q:Int} {its:List Itm} (h:shB q its=true) (nm:ByteArray):fiK its nm≤its.length∧(∀t,t<fiK its nm→nmL its t<nm.toList)∧ ∀t,fiK its nm≤t→t<its.length→ ¬nmL its t<nm.toList:=
 aCH (aDD h) its.length 0 its.length (Nat.le_refl _) (Nat.zero_le _) (by omega) (fun t ht=>by omega) (fun t h1 h2=>by omega)
theorem aD6 {its:List Itm} {i:Nat} {nm:ByteArray}:hZ (its.getD i bM).nm nm=true↔nmL its i=nm.toList:=by
 rw[aC8]
 constructor
 ·intro h;unfold nmL;rw[h]
 ·intro h
  unfold nmL at h
  rw[ByteArray.toList_eq,ByteArray.toList_eq]at h
  exact ByteArray.ext (Array.toList_inj.1 h)
theorem aDF {q:Int} {its:List Itm} (h:shB q its=true) (nm:ByteArray):fiB its nm=decide (0≤atR its nm)∧(fiB its nm=true→atR its nm=(fiK its nm:Nat)):=by
 obtain⟨k1,k2,k3⟩:=aEA h nm
 have hs:=aDD h
 have e:=aC9 (fun i=>hZ (its.getD i bM).nm nm) its.length 0
 unfold fiB atR atE
 split
 ·rename_i e1
  rw[e1]at e
  have:(decide (fiK its nm<its.length)&&hZ (its.getD (fiK its nm) bM).nm nm)=false:=by
   by_cases c:fiK its nm<its.length
   ·rw[show hZ (its.getD (fiK its nm) bM).nm nm=false from e _ (Nat.zero_le _) (by omega),Bool.and_false]
   ·rw[decide_eq_false c];rfl
  rw[this]
  exact⟨rfl,fun h=>by cases h⟩
 ·rename_i j e1
  rw[e1]at e
  obtain⟨-,h2,h3,h4⟩:=e
  have h3:nmL its j=nm.toList:=aD6.1 h3
  have ej:fiK its nm=j:=by
   rcases Nat.lt_trichotomy (fiK its nm) j with c|c|c
   ·exfalso
    have:=hs j _ c (by omega)
    rw[h3]at this
    exact k3 _ (Nat.le_refl _) (by omega) this
   ·exact c
   ·exfalso
    have:=k2 j c
    rw[h3]at this
    exact List.lt_irrefl _ this
  rw[ej]
  have:(decide (j<its.length)&&hZ (its.getD j bM).nm nm)=true:=by
   rw[decide_eq_true (by omega),aD6.2 h3];rfl
  rw[this]
  exact⟨(decide_eq_true (by omega)).symm,fun _=>rfl⟩
end
section
def gtB (q:Int) (its:List Itm) (nm:ByteArray):Bool:=shB q its&&decide (0≤atR its nm)
def gtS (q:Int) (its:List Itm) (nm:ByteArray):ByteArray:=bif gtB q its nm then itS (its.getD (atR its nm).toNat bM).ks else⟨#[]⟩
theorem aE7 (its:List Itm) (nm:ByteArray):atR its nm<its.length:=by
 have e:=aC9 (fun i=>hZ (its.getD i bM).nm nm) its.length 0
 unfold atR atE
 split
 ·omega
 ·rename_i j e1
  rw[e1]at e
  have:=e.2.1
  omega
theorem aEG {q:Int} {its:List Itm} (h:shB q its=true) {i:Nat} (hi:i<its.length):itB (its.getD i bM).ks=true∧(its.getD i bM).ks.all okR=true:=by
 unfold shB at h
 rw[Bool.and_eq_true]at h
 have:=cF.1 h.1 i (Nat.zero_le _) (by omega)
 unfold tI at this
 simp only[Bool.and_eq_true,rpS]at this
 refine⟨this.1, ?_⟩
 have:=this.1
 unfold itB at this
 rw[Bool.and_eq_true]at this
 exact this.1
def aF6:aO:=fun args h=>
 match args,h with
 |[.agg [.int .i64 q,.view _ (.typ .itm its) n 2 _],.c (.str nm)],[]=>
  some (.tup [.c (.str (gtS q its nm)),.c (.bool (gtB q its nm))],[],[decide (n=its.length),sdI its])
 |_,_=>none
theorem mGI:aT Tryz.prog 28 aF6:=by
 intro args h res h' o hnorm he ho
 unfold aF6 at he
 split at he
 case h_2=>cases he
 rename_i q nl its n cap nm
 simp only[Option.some.injEq,Prod.mk.injEq]at he
 obtain⟨rfl,rfl,rfl⟩:=he
 simp only[List.mem_cons,List.not_mem_nil,or_false,forall_eq_or_imp,forall_eq,decide_eq_true_eq]at ho
 obtain⟨o1,o2⟩:=ho
 simp only[b8,AV.norm,bA,aI.norm,Con.size,List.cons.injEq,AV.c.injEq,AV.agg.injEq,aI.view.injEq,aN,true_and,and_true]at hnorm
 obtain⟨rfl,_,rfl⟩:=hnorm
 subst o1
 obtain⟨hn,hk⟩:=l6 o2
 have hn:=decide_eq_true hn
 have hl:=aE7 its nm
 refine aC0 aHH (xGI q its nm) ?_
 unfold gtS gtB
 cases h:shB q its with
 |false=>simp only[aF0,fS,h,o2,hn];simp
 |true=>
  obtain⟨g1,g2⟩:=aDF h nm
  cases c:decide (0≤atR its nm)with
  |false=>have c':decide (atR its nm<0)=true:=decide_eq_true (by have:=of_decide_eq_false c;omega);simp only[aF0,fS,h,o2,hn,g1,c,c'];simp
  |true=>
   have c0:=of_decide_eq_true c
   have c':decide (atR its nm<0)=false:=decide_eq_false (by omega)
   rw[c]at g1
   have g2:=g2 g1
   obtain⟨j,hj⟩: ∃j:Nat,atR its nm=j:=⟨(atR its nm).toNat,by omega⟩
   have hj':fiK its nm=j:=by omega
   obtain⟨i1,i2⟩:=aEG h (i:=j) (by omega)
   have i3:=hk j
   simp only[aF0,fS,h,o2,hn,g1,c,c',hj,hj',Int.toNat_natCast,i1,i2,i3,Bool.true_and,rpS,cond_true]
   simp
   omega
def aF7:aO:=fun args h=>
 match args,h with
 |[.agg [.int .i64 q,.view _ (.typ .itm its) n 2 _],.c (.str nm)],[]=>
  some (.tup [.c (.str (gtS q its nm)),.c (.bool (gtB q its nm))],[],[decide (n=its.length),sdI its])
 |_,_=>none
theorem mGS:aT Tryz.prog 27 aF7:=by
 intro args h res h' o hnorm he ho
 unfold aF7 at he
 split at he
 case h_2=>cases he
 rename_i q nl its n cap nm
 simp only[Option.some.injEq,Prod.mk.injEq]at he
 obtain⟨rfl,rfl,rfl⟩:=he
 simp only[List.mem_cons,List.not_mem_nil,or_false,forall_eq_or_imp,forall_eq,decide_eq_true_eq]at ho
 obtain⟨o1,o2⟩:=ho
 simp only[b8,AV.norm,bA,aI.norm,Con.size,List.cons.injEq,AV.c.injEq,AV.agg.injEq,aI.view.injEq,aN,true_and,and_true]at hnorm
 obtain⟨rfl,_,rfl⟩:=hnorm
 subst o1
 obtain⟨hn,hk⟩:=l6 o2
 have hn:=decide_eq_true hn
 have hl:=aE7 its nm
 refine aC0 aHH (xGS q its nm) ?_
 unfold gtS gtB
 cases h:shB q its with
 |false=>simp only[aF1,fS,h,o2,hn];simp
 |true=>
  obtain⟨g1,g2⟩:=aDF h nm
  cases c:decide (0≤atR its nm)with
  |false=>have c':decide (atR its nm<0)=true:=decide_eq_true (by have:=of_decide_eq_false c;omega);simp only[aF1,fS,h,o2,hn,g1,c,c'];simp
  |true=>
   have c0:=of_decide_eq_true c
   have c':decide (atR its nm<0)=false:=decide_eq_false (by omega)
   rw[c]at g1
   have g2:=g2 g1
   obtain⟨j,hj⟩: ∃j:Nat,atR its nm=j:=⟨(atR its nm).toNat,by omega⟩
   have hj':fiK its nm=j:=by omega
   obtain⟨i1,i2⟩:=aEG h (i:=j) (by omega)
   have i3:=hk j
   simp only[aF1,fS,h,o2,hn,g1,c,c',hj,hj',Int.toNat_natCast,i1,i2,i3,Bool.true_and,rpS,cond_true]
   simp
   omega
noncomputable def aFC:List aZ:=[⟨28,[],nm aF6⟩,⟨27,[],nm aF7⟩]++aE6
theorem aI4:aA Tryz.prog aFC:=by
 refine aA.append ?_ aH2
 intro e he
 simp only[List.mem_cons,List.not_mem_nil,or_false]at he
 rcases he with rfl|rfl
 ·exact mGI.ok
 ·exact mGS.ok
theorem aIZ:bL Tryz.prog (aH aFC):=aQ aI4
noncomputable def aGE (q:Int) (its:List Itm) (nm:ByteArray):Tr FO:=.b 0 (decide ((↑nm.size:Int)>1048576)) (.r ⟨AV.c (aI.bool true),[],[]⟩) (.o [decide (its.length=its.length),F6 its] (.b 0 (decide (szF 1048576 (rF its)<0)) (.r ⟨AV.c (aI.bool true),[],[]⟩) (.o [decide (its.length=its.length)&&(decide (its.length≤274877906944)&&(its.all Itm.md&&true)),decide (its.length*2=its.length*2),decide (its.length=its.length),sdI its,decide (its.length=its.length)&&(decide (its.length≤274877906944)&&(its.all Itm.md&&true)),decide (its.length*2=its.length*2),decide (its.length=its.length),sdI its] (.b 0 (!hZ (gtS q its nm) (gtS q its nm)) (.o [!hZ (gtS q its nm) (gtS q its nm)] (.r ⟨AV.c (aI.bool false),[],[]⟩)) (.b 0 (bif !hZ (gtS q its nm) (gtS q its nm)then true else !gtB q its nm==gtB q its nm) (.r ⟨AV.c (aI.bool false),[],[]⟩) (.o [decide (its.length=its.length)&&(decide (its.length≤274877906944)&&(its.all Itm.md&&true)),decide (its.length*2=its.length*2),decide (its.length*2=its.length*2), !q !=q&&(decide (its.length=its.length)&&(decide (its.length≤274877906944)&&(its.all Itm.md&&(decide (its.length=its.length)&&(decide (its=its)&&true)))))] (.r ⟨AV.c (aI.bool true),[],[]⟩)))))))
theorem xLG (q:Int) (its:List Itm) (nm:ByteArray):(aGE q its nm).Chk (fo aFC Tryz.f6 ([]) [.agg [.int .i64 q,.view none (.typ .itm its) its.length 2 none],.c (.str nm)] []):=chk (by kernel_rfl)
theorem aHA (q:Int) (its:List Itm) (nm:ByteArray) (o:F6 its=true):bF Tryz.prog 6 [.agg [.int .i64 q,.view none (.typ .itm its) its.length 2 none],.c (.str nm)] [] (.c (.bool true)) []:=by
 refine aC0 aIZ (xLG q its nm) ?_
 have s1:=v7 (gtS q its nm)
 cases c:decide (szF 1048576 (rF its)<0)with
 |true=>simp only[aGE,fS,c,o];grind
 |false=>
  obtain⟨g1,g2,g3⟩:=a1X (aEH (of_decide_eq_false c))
  simp only[aGE,fS,c,o,g1,g2,g3,s1,beq_self_eq_true,bne_self_eq_false,Bool.not_true,cond_false,Bool.not_false,Bool.true_and,rpS,Bool.and_true]
  cases gtB q its nm<;>simp
end
end Go.Proofs.YtdnfojanjejdgaaGreat.Am
