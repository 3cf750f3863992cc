/- DERIVED. Part 22 of the proof: Am44, B2, C122, C123. No statement of the program is proved here. -/
import Derived.Test.YtdnfojanjejdgaaGreatX21
set_option linter.unusedSimpArgs false
set_option linter.unusedVariables false
set_option linter.unusedSectionVars false
set_option linter.defProp false
namespace Go.Proofs.YtdnfojanjejdgaaGreat.Am
section
def noW (d:Nat):List Oper→Bool
 |[]=>true
 |o::r=>(match o.dst with|some e=> !(Nat.beq e d)|none=>true)&&noW d r
def gOk (ops:Array Oper) (s:St) (l:List Oper) (j:Nat):Bool:=
 match(ops[j]?).bind (·.dst),vP ops s.tmps j with
 |some d,.c (.bool _)=>noW d l
 |_,_=>false
def aDH (o:Oper) (kd:List Nat):Bool:=
 match o.guard with
 |some (j,_)=>kd.elem j
 |none=>false
def aE4 (ops:Array Oper) (s:St) (l:List Oper) (o:Oper) (kd:List Nat):List Nat:=
 match o.guard with
 |some (j,_)=>bif gOk ops s l j then j::kd else kd
 |none=>kd
def aC8 (tt:Tab) (ct:CT) (ops:Array Oper):List Oper→(i base:Nat)→St→AE→List Nat→gJ→Option (List Rec×St×gJ×List Bool)
 |[],_,_,s,_,_,p=>some ([],s,p,[])
 |o::rest,i,base,s,kn,kd,p=>
  match ZW ops s o kn p with
  |none=>none
  |some (dec,kn,p)=>
   match iF tt ct ops s o base dec with
   |none=>none
   |some (fp,e)=>
    bif !(e.sets.all fun x=>Nat.blt x.1 (base+slots o.op))then none else
    match aC8 tt ct ops rest (i+1) (base+slots o.op) (dK s o.dst e) kn (bif aDH o kd then kd else aE4 ops s (o::rest) o kd) p with
    |none=>none
    |some (rs,s',p',b)=>some ({i,o,base,dec,fp,eff:=e}::rs,s',p',(bif aDH o kd then e.obl.tail else e.obl)++b)
def aEK (ops:Array Oper) (l:List Oper) (s:St) (kn:AE) (kd:List Nat):Prop:=
 ∀j,kd.elem j=true→ ∃d v,(ops[j]?).bind (·.dst)=some d∧noW d l=true∧vP ops s.tmps j=.c (.bool v)∧known? kn j=some v
theorem aDY {d:Nat} {o:Oper} {r:List Oper} (h:noW d (o::r)=true):o.dst≠some d∧noW d r=true:=by
 simp only[noW,Bool.and_eq_true,rpS]at h
 refine⟨fun e=> ?_,h.2⟩
 rw[e]at h
 simp at h
theorem aD2 {ops:Array Oper} {s:St} {o:Oper} {e:Eff} {j d:Nat} (hd:(ops[j]?).bind (·.dst)=some d) (h:o.dst≠some d):vP ops (dK s o.dst e).tmps j=vP ops s.tmps j:=by
 unfold vP
 rw[hd]
 show(dK s o.dst e).tmps.getD d _=s.tmps.getD d _
 unfold dK rA
 cases hx:o.dst with
 |none=>rfl
 |some x=>
  have:x≠d:=fun e'=>h (by rw[hx,e'])
  simp only
  rw[List.getD_eq_getElem?_getD,List.getElem?_set_ne this,←List.getD_eq_getElem?_getD]
theorem aD3 {kn:AE} {i j:Nat} {b v:Bool} (h:known? kn j=some v) (hi:known? kn i=none):known? ((i,b)::kn) j=some v:=by
 simp only[known?]
 cases e:i==j with
 |false=>exact h
 |true=>rw[beq_iff_eq]at e;subst e;rw[hi]at h;cases h
theorem aCB {ops:Array Oper} {s:St} {o:Oper} {kn kn':AE} {p p':gJ} {dec:Option Bool} (h:ZW ops s o kn p=some (dec,kn',p')): ∀j v,known? kn j=some v→known? kn' j=some v:=by
 unfold ZW at h
 split at h
 ·simp only[Option.some.injEq,Prod.mk.injEq]at h;obtain⟨-,rfl,-⟩:=h;exact fun _ _ h=>h
 ·split at h
  ·simp only[Option.some.injEq,Prod.mk.injEq]at h;obtain⟨-,rfl,-⟩:=h;exact fun _ _ h=>h
  ·split at h
   ·simp only[Option.some.injEq,Prod.mk.injEq]at h;obtain⟨-,rfl,-⟩:=h;exact fun _ _ h=>h
   ·rename_i hk
    obtain⟨x,-,hx⟩:=Option.map_eq_some_iff.1 h
    simp only[Prod.mk.injEq]at hx
    obtain⟨-,rfl,-⟩:=hx
    exact fun j v h=>aD3 h hk
theorem aCD {ops:Array Oper} {s:St} {o:Oper} {kn kn':AE} {p p':gJ} {dec:Option Bool} (h:ZW ops s o kn p=some (dec,kn',p')) {j:Nat} {want v:Bool} (hg:o.guard=some (j,want)) (hv:vP ops s.tmps j=.c (.bool v)):
  ∃c,known? kn' j=some c∧dec=some (bif want then c else !c):=by
 unfold ZW at h
 rw[hg]at h
 simp only[hv]at h
 split at h
 ·rename_i b hk
  simp only[Option.some.injEq,Prod.mk.injEq]at h
  obtain⟨rfl,rfl,-⟩:=h
  exact⟨b,hk,rfl⟩
 ·obtain⟨x,-,hx⟩:=Option.map_eq_some_iff.1 h
  simp only[Prod.mk.injEq]at hx
  obtain⟨rfl,rfl,-⟩:=hx
  exact⟨x.1,by simp[known?],rfl⟩
theorem aCC {tt:Tab} {ct:CT} {ops:Array Oper} {s:St} {o:Oper} {base:Nat} {c:Bool} {fp:List Nat} {e:Eff} {j:Nat} {want v:Bool} (hg:o.guard=some (j,want)) (hv:vP ops s.tmps j=.c (.bool v))
  (h:iF tt ct ops s o base (some (bif want then c else !c))=some (fp,e)): ∃x r,e.obl=x::r∧(x=true↔v=c):=by
 unfold iF at h
 rw[hg]at h
 cases hd:(bif want then c else !c)with
 |true=>
  rw[hd]at h
  simp only[hv]at h
  obtain⟨e0,-,hx⟩:=Option.map_eq_some_iff.1 h
  simp only[Prod.mk.injEq]at hx
  obtain⟨-,rfl⟩:=hx
  refine⟨_,_,rfl, ?_⟩
  cases want<;>cases c<;>cases v<;>simp at hd⊢
 |false=>
  rw[hd]at h
  simp only[hv,Option.some.injEq,Prod.mk.injEq]at h
  obtain⟨-,rfl⟩:=h
  refine⟨_,_,rfl, ?_⟩
  cases want<;>cases c<;>cases v<;>simp at hd⊢
theorem aC6 {tt:Tab} {ct:CT} {ops:Array Oper}: ∀ {l:List Oper} {i base:Nat} {s s':St} {kn:AE} {kd:List Nat} {p p':gJ} {rs:List Rec} {b:List Bool},
  aC8 tt ct ops l i base s kn kd p=some (rs,s',p',b)→(∀x∈b,x=true)→aEK ops l s kn kd→ ∃b',pI tt ct ops l i base s kn p=some (rs,s',p',b')∧ ∀x∈b',x=true
 |[],i,base,s,s',kn,kd,p,p',rs,b,h,hb,hk=>by
  simp only[aC8,Option.some.injEq,Prod.mk.injEq]at h
  obtain⟨rfl,rfl,rfl,rfl⟩:=h
  exact⟨[],rfl,hb⟩
 |o::rest,i,base,s,s',kn,kd,p,p',rs,b,h,hb,hk=>by
  simp only[aC8]at h
  cases hd:ZW ops s o kn p with
  |none=>rw[hd]at h;cases h
  |some x=>
   obtain⟨dec,kn',p1⟩:=x
   rw[hd]at h
   simp only at h
   cases hs:iF tt ct ops s o base dec with
   |none=>rw[hs]at h;cases h
   |some y=>
    obtain⟨fp,e⟩:=y
    rw[hs]at h
    simp only at h
    cases hc: !(e.sets.all fun x=>Nat.blt x.1 (base+slots o.op))with
    |true=>rw[hc,cond_true]at h;cases h
    |false=>
     rw[hc,cond_false]at h
     split at h
     ·cases h
     ·rename_i rs1 s1 p2 b1 hr
      simp only[Option.some.injEq,Prod.mk.injEq]at h
      obtain⟨rfl,rfl,rfl,rfl⟩:=h
      have he: ∀x∈e.obl,x=true:=by
       cases ht:aDH o kd with
       |false=>rw[ht,cond_false]at hb;exact fun x hx=>hb x (List.mem_append_left _ hx)
       |true=>
        rw[ht,cond_true]at hb
        unfold aDH at ht
        split at ht
        ·rename_i j want hg
         obtain⟨d,v,h1,h2,h3,h4⟩:=hk j ht
         obtain⟨c,g1,rfl⟩:=aCD hd hg h3
         obtain⟨x,r,e1,e2⟩:=aCC hg h3 hs
         rw[aCB hd j v h4]at g1
         rw[e1]at hb⊢
         intro z hz
         rcases List.mem_cons.1 hz with rfl|hz
         ·exact e2.2 (by injection g1)
         ·exact hb z (List.mem_append_left _ hz)
        ·cases ht
      have keep: ∀ {kd':List Nat},(∀j,kd'.elem j=true→ ∃d v,(ops[j]?).bind (·.dst)=some d∧noW d (o::rest)=true∧vP ops s.tmps j=.c (.bool v)∧known? kn' j=some v)→aEK ops rest (dK s o.dst e) kn' kd':=fun {kd'} hh j hj=>by
       obtain⟨d,v,h1,h2,h3,h4⟩:=hh j hj
       obtain⟨q1,q2⟩:=aDY h2
       exact⟨d,v,h1,q2,by rw[aD2 h1 q1];exact h3,h4⟩
      have old: ∀j,kd.elem j=true→ ∃d v,(ops[j]?).bind (·.dst)=some d∧noW d (o::rest)=true∧vP ops s.tmps j=.c (.bool v)∧known? kn' j=some v:=fun j hj=>by
       obtain⟨d,v,h1,h2,h3,h4⟩:=hk j hj
       exact⟨d,v,h1,h2,h3,aCB hd j v h4⟩
      have hk':aEK ops rest (dK s o.dst e) kn' (bif aDH o kd then kd else aE4 ops s (o::rest) o kd):=by
       cases ht:aDH o kd with
       |true=>rw[cond_true];exact keep old
       |false=>
        rw[cond_false]
        unfold aE4
        split
        ·rename_i j want hg
         cases hgo:gOk ops s (o::rest) j with
         |false=>rw[cond_false];exact keep old
         |true=>
          rw[cond_true]
          refine keep fun k hk1=> ?_
          rw[List.elem_cons]at hk1
          cases ek:k==j with
          |false=>rw[ek]at hk1;exact old k hk1
          |true=>
           rw[beq_iff_eq]at ek;subst ek
           unfold gOk at hgo
           split at hgo
           ·rename_i d v hdst hgv
            obtain⟨c,g1,rfl⟩:=aCD hd hg hgv
            obtain⟨x,r,e1,e2⟩:=aCC hg hgv hs
            have:v=c:=e2.1 (he x (by rw[e1];exact List.mem_cons_self))
            subst this
            exact⟨d,v,hdst,hgo,hgv,g1⟩
           ·cases hgo
        ·exact keep old
      obtain⟨b2,f1,f2⟩:=aC6 hr (fun x hx=>hb x (List.mem_append_right _ hx)) hk'
      refine⟨e.obl++b2, ?_,fun x hx=>(List.mem_append.1 hx).elim (he x) (f2 x)⟩
      simp only[pI,hd,hs,hc,cond_false,f1]
def aBY (tt:Tab) (ct:CT) (lc:List (Nat×LC)) (m:Nat):Nat→Code→St→gJ→Option Out
 |0,_,_,_=>none
 |n+1,c,s,p=>
  match c with
  |.skip=>some ⟨.normal,s,p,[],[]⟩
  |.label _=>some ⟨.normal,s,p,[],[]⟩
  |.ret=>some ⟨.ret,s,p,[],[]⟩
  |.exit id=>some ⟨.exit id,s,p,[],[]⟩
  |.region _ ops draw=>
   let l:=ops.toList
   match aC8 tt ct ops l 0 s.heap.length {s with heap:=s.heap++List.replicate (qW l) .unborn} [] [] p with
   |none=>none
   |some (rs,s',p',b)=>
    bif !draw||rT ops rs then some ⟨.normal,s',p',b,[]⟩else none
  |.seq a b=>
   match aBY tt ct lc m n a s p with
   |some ⟨.normal,s',p',o,q⟩=>
    match aBY tt ct lc m n b s' p' with
    |some ⟨e,s'',p'',o',q'⟩=>some ⟨e,s'',p'',o++o',q++q'⟩
    |none=>none
   |r=>r
  |.cond x a b=>
   match p.take (s.ev x)with
   |none=>none
   |some (t,p')=>
    match s.ev x with
    |.c (.bool v)=>
     match aBY tt ct lc m n (bif t then a else b) s p' with
     |some ⟨e,s',p'',o,q⟩=>some ⟨e,s',p'',(bif t then v else !v)::o,q⟩
     |none=>none
    |_=>none
  |.block id body=>
   match tH lc id with
   |some x=>some ⟨x.ex,x.post,p,[],[fit m x.live s=x.pre]⟩
   |none=>
    match aBY tt ct lc m n body s p with
    |some ⟨.exit k,s',p',o,q⟩=>some ⟨if k=id then .normal else .exit k,s',p',o,q⟩
    |r=>r
  |.loop body=>
   match aBY tt ct lc m n body s p with
   |some ⟨.normal,s',p',o,q⟩=>
    match aBY tt ct lc m n (.loop body) s' p' with
    |some ⟨e,s'',p'',o',q'⟩=>some ⟨e,s'',p'',o++o',q++q'⟩
    |none=>none
   |r=>r
  |.scope body=>none
  |_=>none
theorem aBZ {tt:Tab} {ct:CT} {lc:List (Nat×LC)} {m:Nat}: ∀(n:Nat) {c:Code} {s:St} {p:gJ} {o:Out},aBY tt ct lc m n c s p=some o→(∀b∈o.obl,b=true)→
  ∃b,aM tt ct lc m n c s p=some {o with obl:=b}∧ ∀x∈b,x=true
 |0,c,s,p,o,h,_=>by simp[aBY]at h
 |n+1,c,s,p,o,h,ho=>by
  have two: ∀ {a b:Code} {f:Out→Out},(match aBY tt ct lc m n a s p with
    |some ⟨.normal,s',p',o,q⟩=>
     match aBY tt ct lc m n b s' p' with
     |some ⟨e,s'',p'',o',q'⟩=>some (Out.mk e s'' p'' (o++o') (q++q'))
     |none=>none
    |r=>r)=some o→ ∃x,(match aM tt ct lc m n a s p with
    |some ⟨.normal,s',p',o,q⟩=>
     match aM tt ct lc m n b s' p' with
     |some ⟨e,s'',p'',o',q'⟩=>some (Out.mk e s'' p'' (o++o') (q++q'))
     |none=>none
    |r=>r)=some {o with obl:=x}∧ ∀y∈x,y=true:=fun {a b f} h=>by
   split at h
   ·rename_i s1 p1 o1 q1 h1
    split at h
    ·rename_i e s2 p2 o2 q2 h2
     simp only[Option.some.injEq]at h;subst h
     obtain⟨b1,g1,k1⟩:=aBZ n h1 (fun x hx=>ho x (List.mem_append_left _ hx))
     obtain⟨b2,g2,k2⟩:=aBZ n h2 (fun x hx=>ho x (List.mem_append_right _ hx))
     refine⟨b1++b2,by simp only[g1,g2],fun x hx=>(List.mem_append.1 hx).elim (k1 x) (k2 x)⟩
    ·cases h
   ·rename_i hn
    obtain⟨b1,g1,k1⟩:=aBZ n h ho
    refine⟨b1, ?_,k1⟩
    rw[g1]
    split
    ·rename_i s1 p1 o1 q1 h1
     exfalso
     simp only[Option.some.injEq]at h1
     obtain⟨e,s',p',o',q'⟩:=o
     simp only[Out.mk.injEq]at h1
     obtain⟨rfl,rfl,rfl,rfl,rfl⟩:=h1
     exact hn _ _ _ _ h
    ·rfl
  cases c with
  |skip=>simp only[aBY,Option.some.injEq]at h;subst h;exact⟨[],rfl,ho⟩
  |label l=>simp only[aBY,Option.some.injEq]at h;subst h;exact⟨[],rfl,ho⟩
  |ret=>simp only[aBY,Option.some.injEq]at h;subst h;exact⟨[],rfl,ho⟩
  |exit id=>simp only[aBY,Option.some.injEq]at h;subst h;exact⟨[],rfl,ho⟩
  |region id ops draw=>
   simp only[aBY]at h
   split at h
   ·cases h
   ·rename_i rs s' p' b hr
    cases hd: !draw||rT ops rs with
    |false=>rw[hd,cond_false]at h;cases h
    |true=>
     rw[hd,cond_true,Option.some.injEq]at h;subst h
     obtain⟨b',g1,g2⟩:=aC6 hr ho (fun j hj=>by simp at hj)
     exact⟨b',by simp only[aM,g1,hd,cond_true],g2⟩
  |seq a b=>
   simp only[aBY]at h
   obtain⟨x,h1,h2⟩:=two (f:=id) h
   exact⟨x,by simp only[aM];exact h1,h2⟩
  |loop body=>
   simp only[aBY]at h
   obtain⟨x,h1,h2⟩:=two (f:=id) h
   exact⟨x,by simp only[aM];exact h1,h2⟩
  |cond x a b=>
   simp only[aBY]at h
   split at h
   ·cases h
   ·rename_i t p1 ht
    split at h
    ·rename_i v hv
     split at h
     ·rename_i e s1 p2 o1 q1 h1
      simp only[Option.some.injEq]at h;subst h
      obtain⟨b1,g1,k1⟩:=aBZ n h1 (fun x hx=>ho x (List.mem_cons_of_mem _ hx))
      rw[hv]at ht
      refine⟨(bif t then v else !v)::b1,by simp only[aM,hv,ht,g1],fun x hx=> ?_⟩
      rcases List.mem_cons.1 hx with rfl|hx
      ·exact ho _ List.mem_cons_self
      ·exact k1 x hx
     ·cases h
    ·cases h
  |block id body=>
   simp only[aBY]at h
   split at h
   ·rename_i x hx
    simp only[Option.some.injEq]at h;subst h
    exact⟨[],by simp only[aM,hx],ho⟩
   ·rename_i hx
    split at h
    ·rename_i k s1 p1 o1 q1 h1
     simp only[Option.some.injEq]at h;subst h
     obtain⟨b1,g1,k1⟩:=aBZ n h1 ho
     exact⟨b1,by simp only[aM,hx,g1],k1⟩
    ·rename_i hn
     obtain⟨b1,g1,k1⟩:=aBZ n h ho
     refine⟨b1, ?_,k1⟩
     simp only[aM,hx,g1]
     split
     ·rename_i k s1 p1 o1 q1 h1
      exfalso
      simp only[Option.some.injEq]at h1
      obtain⟨e,s',p',o',q'⟩:=o
      simp only[Out.mk.injEq]at h1
      obtain⟨rfl,rfl,rfl,rfl,rfl⟩:=h1
      exact hn _ _ _ _ _ h
     ·rfl
  |scope body=>simp only[aBY]at h;cases h
  |_=>simp only[aBY]at h;cases h
inductive Tr (α:Type):Type where
 |r (x:α)
 |o (l:List Bool) (t:Tr α)
 |b (n:Nat) (c:Bool) (t e:Tr α)
 |d (n:Nat) (v c:Bool) (t:Tr α)
structure Way (α:Type):Type where
 p:gJ
 l:List Bool
 x:α
def Way.pre {α:Type} (p:gJ) (l:List Bool) (w:Way α):Way α:=⟨p++w.p,l++w.l,w.x⟩
def Tr.runs {α:Type}:Tr α→List (Way α)
 |.r x=>[⟨[],[],x⟩]
 |.o l t=>t.runs.map (Way.pre [] l)
 |.b n c t e=>t.runs.map (Way.pre [(n,true)] [c])++e.runs.map (Way.pre [(n,false)] [!c])
 |.d n v c t=>t.runs.map (Way.pre [(n,v)] [bif v then c else !c])
def okL:List Bool→Prop
 |[]=>True
 |b::r=>b=true∧okL r
def Tr.Fits {α:Type} (Q:α→Prop):Tr α→Prop
 |.r x=>Q x
 |.o l t=>okL l∧t.Fits Q
 |.b _ c t e=>(c=true→t.Fits Q)∧(c=false→e.Fits Q)
 |.d _ v c t=>c=v∧t.Fits Q
theorem aCY: ∀ {l:List Bool},okL l→LD l=true
 |[],_=>rfl
 |b::r,h=>by simp only[LD,h.1,aCY h.2,Bool.and_self]
theorem aC2: ∀(a b:List Bool),LD (a++b)=(LD a&&LD b)
 |[],b=>by simp[LD]
 |x::a,b=>by simp only[List.cons_append,LD,aC2 a b,Bool.and_assoc]
theorem Tr.way {α:Type} {Q:α→Prop}: ∀ {T:Tr α},T.Fits Q→ ∃w∈T.runs,LD w.l=true∧Q w.x
 |.r x,h=>⟨_,List.mem_cons_self,rfl,h⟩
 |.o l t,h=>by
  obtain⟨w,h1,h2,h3⟩:=Tr.way h.2
  refine⟨_,List.mem_map_of_mem h1, ?_,h3⟩
  simp only[Way.pre,aC2,aCY h.1,h2,Bool.and_self]
 |.b n c t e,h=>by
  cases c with
  |true=>
   obtain⟨w,h1,h2,h3⟩:=Tr.way (h.1 rfl)
   exact⟨_,List.mem_append_left _ (List.mem_map_of_mem h1),by simp only[Way.pre,aC2,h2,LD,Bool.and_self],h3⟩
  |false=>
   obtain⟨w,h1,h2,h3⟩:=Tr.way (h.2 rfl)
   exact⟨_,List.mem_append_right _ (List.mem_map_of_mem h1),by simp only[Way.pre,aC2,h2,LD,Bool.not_false,Bool.and_self],h3⟩
 |.d n v c t,h=>by
  obtain⟨w,h1,h2,h3⟩:=Tr.way h.2
  refine⟨_,List.mem_map_of_mem h1, ?_,h3⟩
  have:=h.1
  subst this
  cases c<;>simp only[Way.pre,aC2,h2,LD,cond_true,cond_false,Bool.not_false,Bool.and_self]
structure RO where
 ex:Ex
 eqs:List Prop
 st:St
def rdO (m:Nat) (live liveX:List Nat) (r:Option Out):Option (Bool×RO):=
 r.map fun o=>(LD o.obl,⟨o.ex,o.eqs,fit m (bif tT o.ex then live else liveX) o.st⟩)
structure FO where
 res:AV
 heap:List aV
 eqs:List Prop
def fnO (tt:Tab) (ct:CT) (lc:List (Nat×LC)) (fuel:Nat) (fn:Func) (args:List AV) (heap:List aV) (p:gJ):Option (Bool×FO):=
 match fn.body with
 |none=>none
 |some c=>
  match aBY tt ct lc heap.length fuel c (GV fn args heap) p with
  |some ⟨.exit _,_,_,_,_⟩=>none
  |some ⟨_,s,_,o,q⟩=>
   match nU tt s fn.results.toList with
   |none=>none
   |some (vs,o')=>
    let res:=lF vs
    let l:=dD heap.length res s.heap
    some (LD (o++o'),⟨res.ren l,l.map fun id=>(Heap.get s.heap id).ren l,q⟩)
  |none=>none
def Tr.Chk {α:Type} (run:gJ→Option (Bool×α)) (T:Tr α):Prop:=T.runs.map (fun w=>run w.p)=T.runs.map fun w=>some (LD w.l,w.x)
theorem Tr.use {α:Type} {run:gJ→Option (Bool×α)} {T:Tr α} (h:T.Chk run) {Q:α→Prop} (f:T.Fits Q): ∃p x,run p=some (true,x)∧Q x:=by
 obtain⟨w,h1,h2,h3⟩:=Tr.way f
 refine⟨w.p,w.x, ?_,h3⟩
 rw[←h2]
 have key: ∀ {l:List (Way α)},l.map (fun w=>run w.p)=l.map (fun w=>some (LD w.l,w.x))→ ∀w∈l,run w.p=some (LD w.l,w.x):=by
  intro l
  induction l with
  |nil=>intro _ w hw;cases hw
  |cons a l ih=>
   intro h w hw
   simp only[List.map_cons,List.cons.injEq]at h
   rcases List.mem_cons.1 hw with rfl|hw
   ·exact h.1
   ·exact ih h.2 w hw
 exact key h w h1
def aC4:List Prop→Prop
 |[]=>True
 |p::r=>p∧aC4 r
theorem aCA: ∀ {l:List Prop},aC4 l→ ∀x∈l,x
 |[],_,x,hx=>by cases hx
 |p::r,h,x,hx=>by
  rcases List.mem_cons.1 hx with rfl|hx
  ·exact h.1
  ·exact aCA h.2 x hx
theorem aC7 {tt:Tab} {ct:CT} {lc:List (Nat×LC)} {m n:Nat} {live liveX:List Nat} {c:Code} {s:St} {p:gJ} {x:RO} (h:rdO m live liveX (aBY tt ct lc m n c s p)=some (true,x)) (hq:aC4 x.eqs):
  ∃f p,Rnd m live liveX (aM tt ct lc m f c s p) x.ex x.st:=by
 obtain⟨o,ho,hx⟩:=Option.map_eq_some_iff.1 h
 simp only[Prod.mk.injEq]at hx
 obtain⟨h1,rfl⟩:=hx
 obtain⟨b,g1,g2⟩:=aBZ n ho (kR h1)
 refine⟨n,p,⟨LD b,o.eqs,by rw[g1];rfl, ?_,aCA hq⟩⟩
 have key: ∀l:List Bool,(∀x∈l,x=true)→LD l=true:=by
  intro l
  induction l with
  |nil=>intro _;rfl
  |cons a l ih=>intro h;simp only[LD,h a List.mem_cons_self,ih fun x hx=>h x (List.mem_cons_of_mem _ hx),Bool.and_self]
 exact key b g2
theorem aDE {tt:Tab} {ct:CT} {lc:List (Nat×LC)} {fuel:Nat} {fn:Func} {args:List AV} {h:List aV} {p:gJ} {x:FO} (hx:fnO tt ct lc fuel fn args h p=some (true,x)):
  ∃o,aJ tt ct lc fuel fn args h p=some o∧o.obl=true∧o.res=x.res∧o.heap=x.heap∧o.eqs=x.eqs:=by
 unfold fnO at hx
 split at hx
 ·cases hx
 ·rename_i c hc
  have key: ∀l:List Bool,(∀x∈l,x=true)→LD l=true:=by
   intro l
   induction l with
   |nil=>intro _;rfl
   |cons a l ih=>intro h;simp only[LD,h a List.mem_cons_self,ih fun x hx=>h x (List.mem_cons_of_mem _ hx),Bool.and_self]
  split at hx
  ·cases hx
  ·rename_i e s p' o q hne he
   split at hx
   ·cases hx
   ·rename_i vs o' hv
    simp only[Option.some.injEq,Prod.mk.injEq]at hx
    obtain⟨h1,rfl⟩:=hx
    have h2:=kR h1
    obtain⟨b,g1,g2⟩:=aBZ fuel he (fun x hx=>h2 x (List.mem_append_left _ hx))
    unfold aJ
    rw[hc]
    simp only[g1]
    cases e with
    |exit k=>exact(hne k rfl).elim
    |normal=>
     simp only[hv]
     exact⟨_,rfl,key _ fun x hx=>(List.mem_append.1 hx).elim (g2 x) fun hx=>h2 x (List.mem_append_right _ hx),rfl,rfl,rfl⟩
    |ret=>
     simp only[hv]
     exact⟨_,rfl,key _ fun x hx=>(List.mem_append.1 hx).elim (g2 x) fun hx=>h2 x (List.mem_append_right _ hx),rfl,rfl,rfl⟩
  ·cases hx
end
section
noncomputable abbrev rd (T:List aZ) (fn:Func) (id:Nat) (m:Nat) (lc:List (Nat×LC)) (s:St) (p:gJ):Option (Bool×RO):=
 rdO m (aE fn id) (aG fn id) (aBY tt (aH T) lc m 100 (aC id (aB fn)) s p)
noncomputable abbrev fo (T:List aZ) (fn:Func) (lc:List (Nat×LC)) (args:List AV) (h:List aV) (p:gJ):Option (Bool×FO):=
 fnO tt (aH T) lc 100 fn args h p
theorem chk {α:Type} {run:gJ→Option (Bool×α)} {T:Tr α} (h:T.runs.map (fun w=>run w.p)=T.runs.map fun w=>some (LD w.l,w.x)):T.Chk run:=h
def e1 (s:St):List Prop:=[s=s]
theorem aG2 (s:St):aC4 (e1 s)=True:=by simp[e1,aC4]
theorem aCU: ∀(a b:List Prop),aC4 (a++b)=(aC4 a∧aC4 b)
 |[],b=>by simp[aC4]
 |x::a,b=>by simp only[List.cons_append,aC4,aCU a b,and_assoc]
theorem fS:(∀ {α:Type} (Q:α→Prop) (x:α),Tr.Fits Q (.r x)=Q x)∧(∀ {α:Type} (Q:α→Prop) (l:List Bool) (t:Tr α),Tr.Fits Q (.o l t)=(okL l∧t.Fits Q))∧
  (∀ {α:Type} (Q:α→Prop) (n:Nat) (c:Bool) (t e:Tr α),Tr.Fits Q (.b n c t e)=((c=true→t.Fits Q)∧(c=false→e.Fits Q)))∧
  (∀ {α:Type} (Q:α→Prop) (n:Nat) (v c:Bool) (t:Tr α),Tr.Fits Q (.d n v c t)=(c=v∧t.Fits Q))∧
  okL []=True∧(∀b r,okL (b::r)=(b=true∧okL r))∧aC4 []=True∧(∀p r,aC4 (p::r)=(p∧aC4 r))∧(∀s,aC4 (e1 s)=True)∧(∀a b,aC4 (a++b)=(aC4 a∧aC4 b))∧
  (∀p:Prop,(p∧True)=p)∧(∀p:Prop,(True∧p)=p)∧(∀ {h:Decidable True}, @decide True h=true)∧(∀b:Bool,(b&&true)=b)∧(∀b:Bool,(true&&b)=b)∧(∀b:Bool,(!!b)=b):=
 ⟨fun _ _=>rfl,fun _ _ _=>rfl,fun _ _ _ _ _=>rfl,fun _ _ _ _ _=>rfl,rfl,fun _ _=>rfl,rfl,fun _ _=>rfl,aG2,aCU,and_true,true_and,fun {h}=> @decide_true h,Bool.and_true,Bool.true_and,Bool.not_not⟩
theorem aGB {T:List aZ} (hT':bL Tryz.prog (aH T)) {fn:Func} {m id:Nat} {β γ:Type} {n:Nat} {Inv:Nat→β→Prop} {I:Nat→β→St} {X:β→St} {Y:γ→St} {exY:Ex} (hexY:exY=.normal∨exY=.ret) {step:Nat→β→β⊕γ}
  {lc:Nat→β→List (Nat×LC)} {R:Nat→β→Tr RO} {E:β→Tr RO} (hlc: ∀i b,i<n→Inv i b→aL none Tryz.prog m (lc i b) (aC id (aB fn)))
  (hk: ∀i b,(R i b).Chk (rd T fn id m (lc i b) (I i b))) (hkx: ∀b,(E b).Chk (rd T fn id m [] (I n b)))
  (hr: ∀i b,i<n→Inv i b→(R i b).Fits fun x=>aC4 x.eqs∧match step i b with
   |.inl b'=>x.ex=.normal∧x.st=I (i+1) b'∧Inv (i+1) b'
   |.inr c=>x.ex=(if exY=.normal then .exit id else exY)∧x.st=Y c)
  (hx: ∀b,Inv n b→(E b).Fits fun x=>aC4 x.eqs∧x.ex=.exit id∧x.st=X b) (b:β) (h0:Inv 0 b):
  aP none Tryz.prog m (.block id (.loop (aC id (aB fn)))) (I 0 b) fun e t=>match cG step n 0 b with
   |.inl b'=>e=.normal∧t=X b'
   |.inr c=>e=exY∧t=Y c:=by
 refine aP.countE hT hT' bE n Inv I X Y exY hexY step (aE fn id) (aG fn id) lc hlc (fun i b hi hb=> ?_) (fun b hb=> ?_) b h0
 ·obtain⟨p,x,h1,h2,h3⟩:=Tr.use (hk i b) (hr i b hi hb)
  obtain⟨f,p,hR⟩:=aC7 h1 h2
  cases hs:step i b with
  |inl b'=>
   rw[hs]at h3
   obtain⟨q1,q2,q3⟩:=h3
   rw[q1,q2]at hR
   exact .inl ⟨b',rfl,q3,f,p,hR⟩
  |inr c=>
   rw[hs]at h3
   obtain⟨q1,q2⟩:=h3
   rw[q1,q2]at hR
   exact .inr ⟨c,rfl,f,p,hR⟩
 ·obtain⟨p,x,h1,h2,q1,q2⟩:=Tr.use (hkx b) (hx b hb)
  obtain⟨f,p,hR⟩:=aC7 h1 h2
  rw[q1,q2]at hR
  exact⟨f,p,hR⟩
theorem aCV {T:List aZ} (hT':bL Tryz.prog (aH T)) {fn:Func} {m id:Nat} {n:Nat} {t:Nat→Bool} {I:Nat→St} {X Y:St} {exY:Ex} (hexY:exY=.normal∨exY=.ret)
  {lc:Nat→List (Nat×LC)} {R:Nat→Tr RO} {E:Tr RO} (hlc: ∀i,i<n→aL none Tryz.prog m (lc i) (aC id (aB fn)))
  (hk: ∀i,(R i).Chk (rd T fn id m (lc i) (I i))) (hkx:E.Chk (rd T fn id m [] (I n)))
  (hr: ∀i,i<n→(R i).Fits fun x=>aC4 x.eqs∧(t i=true→x.ex=.normal∧x.st=I (i+1))∧(t i=false→x.ex=(if exY=.normal then .exit id else exY)∧x.st=Y))
  (hx:E.Fits fun x=>aC4 x.eqs∧x.ex=.exit id∧x.st=X):
  aP none Tryz.prog m (.block id (.loop (aC id (aB fn)))) (I 0) fun e s=>e=(bif cL t n 0 then .normal else exY)∧s=bif cL t n 0 then X else Y:=by
 refine aP.all hT hT' bE n t I X Y exY hexY (aE fn id) (aG fn id) lc hlc (fun i hi ht=> ?_) (fun i hi ht=> ?_) ?_
 ·obtain⟨p,x,h1,h2,q,-⟩:=Tr.use (hk i) (hr i hi)
  obtain⟨f,p,hR⟩:=aC7 h1 h2
  obtain⟨q1,q2⟩:=q ht
  rw[q1,q2]at hR
  exact⟨f,p,hR⟩
 ·obtain⟨p,x,h1,h2,-,q⟩:=Tr.use (hk i) (hr i hi)
  obtain⟨f,p,hR⟩:=aC7 h1 h2
  obtain⟨q1,q2⟩:=q ht
  rw[q1,q2]at hR
  exact⟨f,p,hR⟩
 ·obtain⟨p,x,h1,h2,q1,q2⟩:=Tr.use hkx hx
  obtain⟨f,p,hR⟩:=aC7 h1 h2
  rw[q1,q2]at hR
  exact⟨f,p,hR⟩
theorem aC3 {T:List aZ} (hT':bL Tryz.prog (aH T)) {f:FuncId} {fn:Func} {lc:List (Nat×LC)} {args:List AV} {h h':List aV} {res:AV} {R:Tr FO} (hk:R.Chk (fo T fn lc args h))
  (hr:R.Fits fun x=>aC4 x.eqs∧x.res=res∧x.heap=h') (hlc: ∀c,fn.body=some c→aL none Tryz.prog h.length lc c:=by exact fun _ _=>aL.nil) (hf:Tryz.prog.funcs[f]? =some fn:=by kernel_rfl)
  (hnm:(fn.name== "runtime.NumGoroutine")=false:=by kernel_rfl):bF Tryz.prog f args h res h':=by
 obtain⟨p,x,h1,h2,rfl,rfl⟩:=Tr.use hk hr
 obtain⟨o,g1,g2,g3,g4,g5⟩:=aDE h1
 rw[←g3,←g4]
 exact cA hT' hf hnm g1 g2 (by rw[g5];exact aCA h2) hlc
abbrev lcB (ok:Bool) (id:Nat) (live:List Nat) (pre X Y:St):List (Nat×LC):=bif ok then [(id,⟨live,pre,.normal,X⟩)]else [(id,⟨live,pre,.ret,Y⟩)]
theorem aCI {ok:Bool} {m id:Nat} {live:List Nat} {pre X Y:St} {c:Code} {b:Code} (g:aP none Tryz.prog m (.block id (.loop b)) pre fun e t=>e=(bif ok then .normal else .ret)∧t=bif ok then X else Y) (hb:oM id c=[.loop b]):aL none Tryz.prog m (lcB ok id live pre X Y) c:=by
 cases ok
 ·exact aL.blk hb g aL.nil
 ·exact aL.blk hb g aL.nil
theorem aEM {ok:Bool} {A B:Tr RO} {T:List aZ} {fn:Func} {id m:Nat} {id':Nat} {live:List Nat} {pre X Y s:St} (hA:A.Chk (rd T fn id m [(id',⟨live,pre,.normal,X⟩)] s)) (hB:B.Chk (rd T fn id m [(id',⟨live,pre,.ret,Y⟩)] s)):
  (bif ok then A else B:Tr RO).Chk (rd T fn id m (lcB ok id' live pre X Y) s):=by
 cases ok
 ·exact hB
 ·exact hA
theorem aFX {ok:Bool} {A B:Tr FO} {T:List aZ} {fn:Func} {id':Nat} {live:List Nat} {pre X Y:St} {args:List AV} {h:List aV} (hA:A.Chk (fo T fn [(id',⟨live,pre,.normal,X⟩)] args h)) (hB:B.Chk (fo T fn [(id',⟨live,pre,.ret,Y⟩)] args h)):
  (bif ok then A else B:Tr FO).Chk (fo T fn (lcB ok id' live pre X Y) args h):=by
 cases ok
 ·exact hB
 ·exact hA
theorem aGA {ok:Bool} {m id:Nat} {fn:Func} {live:List Nat} {pre X Y:St} (g:aP none Tryz.prog m (.block id (.loop (aC id (aB fn)))) pre fun e t=>e=(bif ok then .normal else .ret)∧t=bif ok then X else Y) (hb:oM id (aB fn)=[.loop (aC id (aB fn))]):
  ∀c,fn.body=some c→aL none Tryz.prog m (lcB ok id live pre X Y) c:=fun c hc=>by
 have e:aB fn=c:=by unfold aB;rw[hc]
 rw[←e]
 exact aCI g hb
theorem lc1 {m:Nat} {fn:Func} {b:Nat×LC} (hl:tS b.1 (aB fn)=true) (g:KP m fn b): ∀c,fn.body=some c→aL none Tryz.prog m [b] c:=
 S4 fun x hx=>by rw[List.mem_singleton]at hx;subst hx;exact⟨hl,g⟩
end
section
noncomputable def aDC:List aZ:=[⟨70,[],dW tt (aH ZP) Tryz.f70 []⟩]++ZP
theorem aFY:aA Tryz.prog aDC:=by
 refine aA.append ?_ a8P
 intro e he
 simp only[List.mem_cons,List.not_mem_nil,or_false]at he
 subst he;exact cJ hT aBV bE [] (by kernel_rfl) (by kernel_rfl)
theorem aFI:bL Tryz.prog (aH aDC):=aQ aFY
noncomputable abbrev fIW:=Tryz.f122
noncomputable def IIW (x:PK) (v:List Int) (i:Int):St:=aS fIW.ntmps [(0,.c (.sl 0 0 v.length 1 none)),(1,.c (.fn 70 [.ptr 1 0 0 0])),(7,.c (.int .i64 v.length)),(8,.c (.int .i64 i))] [.live (.ints .i64 v),.live (.cells (Ty.cells .pk x))]
noncomputable def XIW (x:PK) (v:List Int):St:=aS fIW.ntmps [] [.live (.ints .i64 v),.live (.cells (Ty.cells .pk x))]
noncomputable def YIW (x:PK) (v:List Int) (i:Int):St:=aS fIW.ntmps [(4,.c (.int .i64 i))] [.live (.ints .i64 v),.live (.cells (Ty.cells .pk x))]
noncomputable def aEV (x:PK) (v:List Int) (i:Int):Tr RO:=.b 0 (decide (i<(↑v.length:Int))) (.o [decide (0≤i),decide (i<(↑v.length:Int)),decide (i.toNat<v.length),decide (0≤v.getD i.toNat 0)&&(decide (v.getD i.toNat 0<(↑x.c.length:Int))&&(decide ((v.getD i.toNat 0).toNat<x.c.length)&&true))] (.b 0 (x.c.getD (v.getD i.toNat 0).toNat false) (.r ⟨.ret,[],YIW x v (i)⟩) (.r ⟨.normal,[],IIW x v (IntKind.i64.wrap (i+1))⟩))) (.r ⟨.exit 0,[],XIW x v⟩)
theorem rIW (x:PK) (v:List Int) (i:Int):(aEV x v i).Chk (rd aDC fIW 0 2 ([]) (IIW x v i)):=chk (by kernel_rfl)
noncomputable def aGG (x:PK) (v:List Int):Tr FO:=.r ⟨AV.c (aI.int IntKind.i64 (-1)),[aV.live (Con.ints IntKind.i64 v),aV.live (.cells (Ty.cells .pk x))],e1 (IIW x v 0)⟩
theorem xIW (x:PK) (v:List Int):(aGG x v).Chk (fo aDC fIW ([(0,⟨aE fIW 0,IIW x v 0,.normal,XIW x v⟩)]) [.c (.sl 0 0 v.length 1 none),.c (.fn 70 [.ptr 1 0 0 0])] [.live (.ints .i64 v),.live (.cells (Ty.cells .pk x))]):=chk (by kernel_rfl)
noncomputable def aGQ (x:PK) (v:List Int) (j:Nat):Tr FO:=.r ⟨AV.c (aI.int IntKind.i64 (↑j:Int)),[aV.live (Con.ints IntKind.i64 v),aV.live (.cells (Ty.cells .pk x))],e1 (IIW x v 0)⟩
theorem yIW (x:PK) (v:List Int) (j:Nat):(aGQ x v j).Chk (fo aDC fIW ([(0,⟨aE fIW 0,IIW x v 0,.ret,YIW x v j⟩)]) [.c (.sl 0 0 v.length 1 none),.c (.fn 70 [.ptr 1 0 0 0])] [.live (.ints .i64 v),.live (.cells (Ty.cells .pk x))]):=chk (by kernel_rfl)
theorem aD0 (f:Nat→Bool): ∀n i,match cG (β:=Unit) (γ:=Nat) (fun i _=>bif f i then .inr i else .inl ()) n i ()with
  |.inl _=>cL (fun i=> !f i) n i=true
  |.inr _=>cL (fun i=> !f i) n i=false
 |0,i=>rfl
 |n+1,i=>by
  simp only[cG,cL]
  cases h:f i with
  |true=>rfl
  |false=>simpa only[cond_false,Bool.not_false,Bool.true_and]using aD0 f n (i+1)
def ixR (p:Int→Bool) (v:List Int):Int:=match cG (β:=Unit) (γ:=Nat) (fun i _=>bif p (v.getD i 0)then .inr i else .inl ()) v.length 0 ()with
 |.inl _=> -1
 |.inr j=>j
theorem aEF (p:Int→Bool) (v:List Int):decide (ixR p v≥0)= !v.all fun y=> !p y:=by
 have h:=aD0 (fun i=>p (v.getD i 0)) v.length 0
 rw[AL (l:=v) (d:=0) (p:=fun y=> !p y)]at h
 unfold ixR
 split at h
 ·rw[h];rfl
 ·rw[h];simp
def aDN:aO:=fun args h=>
 match args,h with
 |[.c (.sl 0 0 n 1 none),.c (.fn 70 [.ptr 1 0 0 0])],[.live (.ints .i64 v),.live (.cells [.int .i64 k,.view none (.ints .i64 a) n1 1 none,.view none (.ints .i64 b) n2 1 none,.view none (.bools c) n3 1 none,.bool on,.int .i64 kd,.view none (.ints .i64 d) n4 1 none,.int .i64 vs])]=>
  some (.c (.int .i64 (ixR (fun y=>c.getD y.toNat false) v)),[.live (.ints .i64 v),.live (.cells [.int .i64 k,.view none (.ints .i64 a) n1 1 none,.view none (.ints .i64 b) n2 1 none,.view none (.bools c) n3 1 none,.bool on,.int .i64 kd,.view none (.ints .i64 d) n4 1 none,.int .i64 vs])],[decide (v.length≤274877906944),decide (n=v.length),decide (n1=a.length),decide (n2=b.length),decide (n3=c.length),decide (n4=d.length),decide (c.length=8),v.all fun y=>bet y 0 7])
 |_,_=>none
theorem mIW:aR Tryz.prog 122 aDN:=by
 intro args h res h' o he ho
 unfold aDN at he
 split at he
 case h_2=>cases he
 rename_i n v k a n1 b n2 c n3 on kd d n4 vs
 simp only[Option.some.injEq,Prod.mk.injEq]at he
 obtain⟨rfl,rfl,rfl⟩:=he
 simp only[List.mem_cons,List.not_mem_nil,or_false,forall_eq_or_imp,forall_eq,decide_eq_true_eq]at ho
 obtain⟨o1,o2,o3,o4,o5,o6,o7,o8⟩:=ho
 subst o2 o3 o4 o5 o6
 have g:=aGB aFI (fn:=fIW) (id:=0) (m:=2) (n:=v.length) (Inv:=fun _ _=>True) (I:=fun i (_:Unit)=>IIW ⟨k,a,b,c,on,kd,d,vs⟩ v i) (X:=fun _=>XIW ⟨k,a,b,c,on,kd,d,vs⟩ v) (Y:=fun j:Nat=>YIW ⟨k,a,b,c,on,kd,d,vs⟩ v j) (.inr rfl)
  (step:=fun i _=>bif c.getD (v.getD i 0).toNat false then .inr i else .inl ()) (lc:=fun _ _=>[]) (fun _ _ _ _=>aL.nil) (fun i _=>rIW _ v i) (fun _=>rIW _ v v.length) (fun i _ hi _=> ?_) (fun _ _=> ?_) () trivial
 ·unfold ixR
  generalize cG _ v.length 0 ()=r at g
  rcases r with r|j
  ·exact aC3 aFI (xIW ⟨k,a,b,c,on,kd,d,vs⟩ v) (by simp only[aGG,fS];exact rfl) (lc1 (by kernel_rfl) g)
  ·exact aC3 aFI (yIW ⟨k,a,b,c,on,kd,d,vs⟩ v j) (by simp only[aGQ,fS];exact rfl) (lc1 (by kernel_rfl) g)
 ·have hb:bet (v.getD i 0) 0 7=true:=List.all_eq_true.1 o8 _ (dC hi)
  simp only[bet,Bool.and_eq_true,rpS,decide_eq_true_eq]at hb
  have hw:IntKind.i64.wrap ((i:Int)+1)=((i+1:Nat):Int):=by rw[aF (by omega) (by omega)];rfl
  simp only[aEV,fS,Int.toNat_natCast,hw]
  grind
 ·simp only[aEV,fS];grind
noncomputable def aE5:List aZ:=[⟨122,[0,1],aDN⟩]++aDC
theorem aFZ:aA Tryz.prog aE5:=by
 refine aA.append ?_ aFY
 intro e he
 simp only[List.mem_cons,List.not_mem_nil,or_false]at he
 subst he;exact mIW
theorem aHM:bL Tryz.prog (aH aE5):=aQ aFZ
noncomputable def aGF (x:PK) (v:List Int):Tr FO:=.o [decide (v.length≤274877906944),decide (v.length=v.length),decide (x.2.length=x.2.length),decide (x.3.length=x.3.length),decide (x.c.length=x.c.length),decide (x.7.length=x.7.length),decide (x.c.length=8),v.all fun y=>bet y 0 7] (.r ⟨AV.c (aI.bool (decide (ixR (fun y=>x.c.getD y.toNat false) v≥0))),[aV.live (Con.ints IntKind.i64 v),aV.live (.cells (Ty.cells .pk x))],[]⟩)
theorem xCW (x:PK) (v:List Int):(aGF x v).Chk (fo aE5 Tryz.f68 ([]) [.c (.sl 0 0 v.length 1 none),.c (.fn 70 [.ptr 1 0 0 0])] [.live (.ints .i64 v),.live (.cells (Ty.cells .pk x))]):=chk (by kernel_rfl)
def aDI:aO:=fun args h=>
 match args,h with
 |[.c (.sl 0 0 n 1 none),.c (.fn 70 [.ptr 1 0 0 0])],[.live (.ints .i64 v),.live (.cells [.int .i64 k,.view none (.ints .i64 a) n1 1 none,.view none (.ints .i64 b) n2 1 none,.view none (.bools c) n3 1 none,.bool on,.int .i64 kd,.view none (.ints .i64 d) n4 1 none,.int .i64 vs])]=>
  some (.c (.bool (!v.all fun y=> !c.getD y.toNat false)),[.live (.ints .i64 v),.live (.cells [.int .i64 k,.view none (.ints .i64 a) n1 1 none,.view none (.ints .i64 b) n2 1 none,.view none (.bools c) n3 1 none,.bool on,.int .i64 kd,.view none (.ints .i64 d) n4 1 none,.int .i64 vs])],[decide (v.length≤274877906944),decide (n=v.length),decide (n1=a.length),decide (n2=b.length),decide (n3=c.length),decide (n4=d.length),decide (c.length=8),v.all fun y=>bet y 0 7])
 |_,_=>none
theorem mCW:aR Tryz.prog 68 aDI:=by
 intro args h res h' o he ho
 unfold aDI at he
 split at he
 case h_2=>cases he
 rename_i n v k a n1 b n2 c n3 on kd d n4 vs
 simp only[Option.some.injEq,Prod.mk.injEq]at he
 obtain⟨rfl,rfl,rfl⟩:=he
 simp only[List.mem_cons,List.not_mem_nil,or_false,forall_eq_or_imp,forall_eq,decide_eq_true_eq]at ho
 obtain⟨o1,o2,o3,o4,o5,o6,o7,o8⟩:=ho
 subst o2 o3 o4 o5 o6
 exact aC3 aHM (xCW ⟨k,a,b,c,on,kd,d,vs⟩ v) (by simp only[aGF,fS,aEF];and_intros<;>first|rfl|grind)
noncomputable def aC5:List aZ:=[⟨68,[0,1],aDI⟩]++aE5
theorem aG0:aA Tryz.prog aC5:=by
 refine aA.append ?_ aFZ
 intro e he
 simp only[List.mem_cons,List.not_mem_nil,or_false]at he
 subst he;exact mCW
theorem aCF:bL Tryz.prog (aH aC5):=aQ aG0
noncomputable abbrev fWI:=Tryz.f25
noncomputable def IWI (q:Int) (its:List Itm) (dn:List Bool) (i:Int):St:=aS fWI.ntmps [(1,.c (.ptr 0 0 0 0)),(19,.c (.view none (.typ .itm its) its.length 2 none)),(20,.c (.int .i64 (its.length:Int))),(21,.c (.int .i64 i))] [.live (.cells [.int .i64 q,.view none (.typ .itm its) its.length 2 none,.view none (.bools dn) dn.length 1 none])]
noncomputable def XWI (q:Int) (its:List Itm) (dn:List Bool):St:=aS fWI.ntmps [] []
noncomputable def YWI (q:Int) (its:List Itm) (dn:List Bool):St:=aS fWI.ntmps [(2,.c (.bool false))] []
noncomputable def JWI (q:Int) (its:List Itm) (dn:List Bool) (i:Int) (ks:List PK) (j:Int):St:=aS fWI.ntmps [(1,.c (.ptr 0 0 0 0)),(19,.c (.view none (.typ .itm its) its.length 2 none)),(20,.c (.int .i64 (its.length:Int))),(21,.c (.int .i64 i)),(26,.c (.view none (.typ .pk ks) ks.length 8 none)),(27,.c (.int .i64 (ks.length:Int))),(28,.c (.int .i64 j))] [.live (.cells [.int .i64 q,.view none (.typ .itm its) its.length 2 none,.view none (.bools dn) dn.length 1 none])]
noncomputable def ZWI (q:Int) (its:List Itm) (dn:List Bool) (i:Int):St:=aS fWI.ntmps [(2,.c (.bool false)),(1,.c (.ptr 0 0 0 0)),(19,.c (.view none (.typ .itm its) its.length 2 none)),(20,.c (.int .i64 (its.length:Int))),(21,.c (.int .i64 i))] [.live (.cells [.int .i64 q,.view none (.typ .itm its) its.length 2 none,.view none (.bools dn) dn.length 1 none])]
noncomputable def aEP (q:Int) (its:List Itm) (dn:List Bool) (i:Int) (ks:List PK) (j:Int):Tr RO:=.b 0 (decide (j<(↑ks.length:Int))) (.o [decide (0≤j),decide (j<(↑ks.length:Int)),decide (j.toNat<ks.length)&&true,decide (dn.length≤274877906944),decide ((flg dn).length≤274877906944),decide ((flg dn).length=(flg dn).length),decide ((ks.getD j.toNat PK0).2.length=(ks.getD j.toNat PK0).2.length),decide ((ks.getD j.toNat PK0).3.length=(ks.getD j.toNat PK0).3.length),decide ((ks.getD j.toNat PK0).c.length=(ks.getD j.toNat PK0).c.length),decide ((ks.getD j.toNat PK0).7.length=(ks.getD j.toNat PK0).7.length),decide ((ks.getD j.toNat PK0).c.length=8),(flg dn).all fun y=>bet y 0 7] (.b 0 (!(flg dn).all fun y=> !(ks.getD j.toNat PK0).c.getD y.toNat false) (.r ⟨.ret,[],ZWI q its dn i⟩) (.r ⟨.normal,[],JWI q its dn i ks (IntKind.i64.wrap (j+1))⟩))) (.r ⟨.exit 2,[],IWI q its dn i⟩)
theorem jWI (q:Int) (its:List Itm) (dn:List Bool) (i:Int) (ks:List PK) (j:Int):(aEP q its dn i ks j).Chk (rd aC5 fWI 2 0 ([]) (JWI q its dn i ks j)):=chk (by kernel_rfl)
noncomputable def aG4 (q:Int) (its:List Itm) (dn:List Bool) (i:Int):Tr RO:=.d 0 false (decide (i<(↑its.length:Int))) (.r ⟨.exit 0,[],XWI q its dn⟩)
theorem eWI (q:Int) (its:List Itm) (dn:List Bool) (i:Int):(aG4 q its dn i).Chk (rd aC5 fWI 0 0 [] (IWI q its dn i)):=chk (by kernel_rfl)
noncomputable def aEX (q:Int) (its:List Itm) (dn:List Bool) (i:Int):Tr RO:=.b 0 (decide (i<(↑its.length:Int))) (.o [decide (0≤i),decide (i<(↑its.length:Int)),decide (i.toNat<its.length)&&true] (.r ⟨.normal,e1 (JWI q its dn i (its.getD i.toNat bM).ks 0),IWI q its dn (IntKind.i64.wrap (i+1))⟩)) (.r ⟨.exit 0,[],XWI q its dn⟩)
theorem rWI (q:Int) (its:List Itm) (dn:List Bool) (i:Int):(aEX q its dn i).Chk (rd aC5 fWI 0 0 ([(2,⟨aE fWI 2,JWI q its dn i (its.getD i.toNat bM).ks 0,.normal,IWI q its dn i⟩)]) (IWI q its dn i)):=chk (by kernel_rfl)
noncomputable def aFG (q:Int) (its:List Itm) (dn:List Bool) (i:Int):Tr RO:=.b 0 (decide (i<(↑its.length:Int))) (.o [decide (0≤i),decide (i<(↑its.length:Int)),decide (i.toNat<its.length)&&true] (.r ⟨.ret,e1 (JWI q its dn i (its.getD i.toNat bM).ks 0),YWI q its dn⟩)) (.r ⟨.exit 0,[],XWI q its dn⟩)
theorem sWI (q:Int) (its:List Itm) (dn:List Bool) (i:Int):(aFG q its dn i).Chk (rd aC5 fWI 0 0 ([(2,⟨aE fWI 2,JWI q its dn i (its.getD i.toNat bM).ks 0,.ret,ZWI q its dn i⟩)]) (IWI q its dn i)):=chk (by kernel_rfl)
noncomputable def aET (q:Int) (its:List Itm) (dn:List Bool):Tr FO:=.o [decide (its.length=its.length),sdI its] (.b 0 (!shB q its) (.o [!shB q its] (.r ⟨AV.c (aI.bool false),[],[]⟩)) (.d 0 true (bif !shB q its then true else(↑dn.length:Int)!=8) (.r ⟨AV.c (aI.bool false),[],[]⟩)))
theorem nWI (q:Int) (its:List Itm) (dn:List Bool):(aET q its dn).Chk (fo aC5 fWI [] [.agg [.int .i64 q,.view none (.typ .itm its) its.length 2 none,.view none (.bools dn) dn.length 1 none]] []):=chk (by kernel_rfl)
noncomputable def aGH (q:Int) (its:List Itm) (dn:List Bool):Tr FO:=.o [decide (its.length=its.length),sdI its] (.b 0 (!shB q its) (.o [!shB q its] (.r ⟨AV.c (aI.bool false),[],[]⟩)) (.b 0 (bif !shB q its then true else(↑dn.length:Int)!=8) (.r ⟨AV.c (aI.bool false),[],[]⟩) (.r ⟨AV.c (aI.bool true),[],e1 (IWI q its dn 0)⟩)))
theorem xWI (q:Int) (its:List Itm) (dn:List Bool):(aGH q its dn).Chk (fo aC5 fWI ([(0,⟨aE fWI 0,IWI q its dn 0,.normal,XWI q its dn⟩)]) [.agg [.int .i64 q,.view none (.typ .itm its) its.length 2 none,.view none (.bools dn) dn.length 1 none]] []):=chk (by kernel_rfl)
noncomputable def aGR (q:Int) (its:List Itm) (dn:List Bool):Tr FO:=.o [decide (its.length=its.length),sdI its] (.b 0 (!shB q its) (.o [!shB q its] (.r ⟨AV.c (aI.bool false),[],[]⟩)) (.b 0 (bif !shB q its then true else(↑dn.length:Int)!=8) (.r ⟨AV.c (aI.bool false),[],[]⟩) (.r ⟨AV.c (aI.bool false),[],e1 (IWI q its dn 0)⟩)))
theorem yWI (q:Int) (its:List Itm) (dn:List Bool):(aGR q its dn).Chk (fo aC5 fWI ([(0,⟨aE fWI 0,IWI q its dn 0,.ret,YWI q its dn⟩)]) [.agg [.int .i64 q,.view none (.typ .itm its) its.length 2 none,.view none (.bools dn) dn.length 1 none]] []):=chk (by kernel_rfl)
def wk (dn:List Bool) (x:PK):Bool:=(flg dn).all fun y=> !x.c.getD y.toNat false
def wi (dn:List Bool) (it:Itm):Bool:=it.ks.all (wk dn)
def woB (q:Int) (its:List Itm) (dn:List Bool):Bool:=shB q its&&((dn.length:Int)==8&&its.all (wi dn))
theorem aEE {dn:List Bool} (h:dn.length=8):((flg dn).all fun y=>bet y 0 7)=true:=by
 have:=mD dn
 unfold d9 at this
 rw[h]at this
 rw[List.all_eq_true]at this⊢
 intro y hy
 have:=this y hy
 simp only[bet,Bool.and_eq_true,rpS,decide_eq_true_eq]at this⊢
 omega
theorem aE2 {q:Int} {its:List Itm} (h:shB q its=true) {i:Nat} (hi:i<its.length) {x:PK} (hx:x∈(its.getD i bM).ks):x.c.length=8:=by
 unfold shB at h
 rw[Bool.and_eq_true]at h
 have:=cF.1 h.1 i (Nat.zero_le _) (by omega)
 unfold tI itB at this
 simp only[Bool.and_eq_true,rpS]at this
 have:=List.all_eq_true.1 this.1.1 x hx
 unfold okR at this
 rw[Bool.and_eq_true]at this
 exact(dV this.1).2.2
theorem lJW (q:Int) (its:List Itm) (dn:List Bool) (i:Int) (ks:List PK) (hd:dn.length=8) (hl:ks.length≤274877906944) (hk: ∀x∈ks,x.c.length=8):
  aP none Tryz.prog 0 (.block 2 (.loop (aC 2 (aB fWI)))) (JWI q its dn i ks 0) fun e t=>e=(bif ks.all (wk dn)then .normal else .ret)∧t=bif ks.all (wk dn)then IWI q its dn i else ZWI q its dn i:=by
 rw[←AL (d:=PK0)]
 refine aCV aCF (I:=fun j=>JWI q its dn i ks j) (.inr rfl) (lc:=fun _=>[]) (fun _ _=>aL.nil) (fun j=>jWI q its dn i ks j) (jWI q its dn i ks ks.length) (fun j hj=> ?_) ?_
 ·have h8:=hk _ (dC (d:=PK0) hj)
  have h1:=nC dn
  have hw:IntKind.i64.wrap ((j:Int)+1)=((j+1:Nat):Int):=by rw[aF (by omega) (by omega)];rfl
  simp only[aEP,fS,Int.toNat_natCast,hw,aEE hd]
  unfold wk
  grind
 ·simp only[aEP,fS];grind
theorem lWI (q:Int) (its:List Itm) (dn:List Bool) (hd:dn.length=8) (hs:sdI its=true) (h:shB q its=true):
  aP none Tryz.prog 0 (.block 0 (.loop (aC 0 (aB fWI)))) (IWI q its dn 0) fun e t=>e=(bif its.all (wi dn)then .normal else .ret)∧t=bif its.all (wi dn)then XWI q its dn else YWI q its dn:=by
 obtain⟨hn,hk⟩:=l6 hs
 have hn8:its.length≤274877906944:=hn
 rw[←AL (d:=bM)]
 refine aCV aCF (I:=fun i=>IWI q its dn i) (.inr rfl) (lc:=fun i=>lcB (wi dn (its.getD i bM)) 2 (aE fWI 2) (JWI q its dn i (its.getD i bM).ks 0) (IWI q its dn i) (ZWI q its dn i))
  (R:=fun i=>bif wi dn (its.getD i bM)then aEX q its dn i else aFG q its dn i) (fun i hi=>aCI (lJW q its dn i _ hd (rU (hk i)).1 fun x hx=>aE2 h hi hx) (by kernel_rfl)) (fun i=>aEM (rWI q its dn i) (sWI q its dn i)) (eWI q its dn its.length) (fun i hi=> ?_) ?_
 ·have hw:IntKind.i64.wrap ((i:Int)+1)=((i+1:Nat):Int):=by rw[aF (by omega) (by omega)];rfl
  cases hb:wi dn (its.getD i bM)<;>simp only[cond_true,cond_false,aEX,aFG,fS,Int.toNat_natCast,hw]<;>grind
 ·simp only[aG4,fS];grind
def aEI:aO:=fun args h=>
 match args,h with
 |[.agg [.int .i64 q,.view _ (.typ .itm its) n 2 _,.view _ (.bools dn) n2 1 _]],[]=>
  some (.c (.bool (woB q its dn)),[],[decide (n=its.length),sdI its,decide (n2=dn.length)])
 |_,_=>none
theorem mWI:aT Tryz.prog 25 aEI:=by
 intro args h res h' o hnorm he ho
 unfold aEI at he
 split at he
 case h_2=>cases he
 rename_i q nl its n cap nl2 dn n2 cap2
 simp only[Option.some.injEq,Prod.mk.injEq]at he
 obtain⟨rfl,rfl,rfl⟩:=he
 simp only[List.mem_cons,List.not_mem_nil,or_false,forall_eq_or_imp,forall_eq,decide_eq_true_eq]at ho
 obtain⟨o1,o2,o3⟩:=ho
 simp only[b8,AV.norm,bA,aI.norm,Con.size,List.cons.injEq,AV.c.injEq,AV.agg.injEq,aI.view.injEq,aN,true_and,and_true]at hnorm
 obtain⟨⟨rfl,_,rfl⟩,rfl,_,rfl⟩:=hnorm
 subst o1 o3
 unfold woB
 cases c1:shB q its with
 |false=>exact aC3 aCF (nWI q its dn) (by simp only[aET,fS,c1,o2];grind)
 |true=>
  cases c2:(dn.length:Int)==8 with
  |false=>exact aC3 aCF (nWI q its dn) (by simp only[aET,fS,c1,c2,o2,bne];grind)
  |true=>
   have hd:dn.length=8:=by have:=beq_iff_eq.1 c2;omega
   exact aC3 aCF (aFX (xWI q its dn) (yWI q its dn)) (by cases hb:its.all (wi dn)<;>simp only[cond_true,cond_false,aGH,aGR,fS,c1,c2,bne,o2]<;>grind) (aGA (lWI q its dn hd o2 c1) (by kernel_rfl))
noncomputable abbrev fWS:=Tryz.f23
noncomputable def IWS (q:Int) (its:List Itm) (dn:List Bool) (i:Int):St:=aS fWS.ntmps [(1,.c (.ptr 0 0 0 0)),(3,.c (.int .i64 i))] [.live (.cells [.int .i64 q,.view none (.typ .itm its) its.length 2 none,.view none (.bools dn) dn.length 1 none])]
noncomputable def XWS (q:Int) (its:List Itm) (dn:List Bool):St:=aS fWS.ntmps [] []
noncomputable def YWS (q:Int) (its:List Itm) (dn:List Bool):St:=aS fWS.ntmps [(2,.c (.bool false))] []
noncomputable def ZWS (q:Int) (its:List Itm) (dn:List Bool) (i:Int):St:=aS fWS.ntmps [(2,.c (.bool false)),(1,.c (.ptr 0 0 0 0)),(3,.c (.int .i64 i))] [.live (.cells [.int .i64 q,.view none (.typ .itm its) its.length 2 none,.view none (.bools dn) dn.length 1 none])]
noncomputable def JWS (q:Int) (its:List Itm) (dn:List Bool) (i k:Int):St:=aS fWS.ntmps [(1,.c (.ptr 0 0 0 0)),(3,.c (.int .i64 i)),(4,.c (.int .i64 k))] [.live (.cells [.int .i64 q,.view none (.typ .itm its) its.length 2 none,.view none (.bools dn) dn.length 1 none])]
noncomputable def VWS (q:Int) (its:List Itm) (dn:List Bool) (i k:Int):St:=aS fWS.ntmps [(2,.c (.bool false)),(1,.c (.ptr 0 0 0 0)),(3,.c (.int .i64 i)),(4,.c (.int .i64 k))] [.live (.cells [.int .i64 q,.view none (.typ .itm its) its.length 2 none,.view none (.bools dn) dn.length 1 none])]
noncomputable def LWS (q:Int) (its:List Itm) (dn:List Bool) (i k j:Int):St:=aS fWS.ntmps [(1,.c (.ptr 0 0 0 0)),(3,.c (.int .i64 i)),(4,.c (.int .i64 k)),(5,.c (.int .i64 j))] [.live (.cells [.int .i64 q,.view none (.typ .itm its) its.length 2 none,.view none (.bools dn) dn.length 1 none])]
noncomputable def aEQ (q:Int) (its:List Itm) (dn:List Bool) (i k j:Int):Tr RO:=.b 0 (decide (j<8)) (.o [decide (0≤j),decide (j<(↑dn.length:Int)),decide (j.toNat<dn.length)] (.b 0 (dn.getD j.toNat false) (.o [decide (0≤i),decide (i<(↑its.length:Int)),decide (i.toNat<its.length)&&true,decide (0≤k),decide (k<(↑(its.getD i.toNat bM).ks.length:Int)),decide (k.toNat<(its.getD i.toNat bM).ks.length)&&true,decide (0≤j),decide (j<(↑((its.getD i.toNat bM).ks.getD k.toNat PK0).c.length:Int)),decide (j.toNat<((its.getD i.toNat bM).ks.getD k.toNat PK0).c.length)] (.b 0 (bif dn.getD j.toNat false then((its.getD i.toNat bM).ks.getD k.toNat PK0).c.getD j.toNat false else false) (.r ⟨.ret,[],VWS q its dn i k⟩) (.r ⟨.normal,[],LWS q its dn i k (IntKind.i64.wrap (j+1))⟩))) (.o [!dn.getD j.toNat false] (.r ⟨.normal,[],LWS q its dn i k (IntKind.i64.wrap (j+1))⟩)))) (.r ⟨.exit 4,[],JWS q its dn i k⟩)
theorem lWS (q:Int) (its:List Itm) (dn:List Bool) (i k j:Int):(aEQ q its dn i k j).Chk (rd aC5 fWS 4 0 ([]) (LWS q its dn i k j)):=chk (by kernel_rfl)
noncomputable def aG3 (q:Int) (its:List Itm) (dn:List Bool) (i k:Int):Tr RO:=.o [decide (0≤i),decide (i<(↑its.length:Int)),decide (i.toNat<its.length)&&true] (.d 0 false (decide (k<(↑(its.getD i.toNat bM).ks.length:Int))) (.r ⟨.exit 2,[],IWS q its dn i⟩))
theorem eJS (q:Int) (its:List Itm) (dn:List Bool) (i k:Int):(aG3 q its dn i k).Chk (rd aC5 fWS 2 0 [] (JWS q its dn i k)):=chk (by kernel_rfl)
noncomputable def aEW (q:Int) (its:List Itm) (dn:List Bool) (i k:Int):Tr RO:=.o [decide (0≤i),decide (i<(↑its.length:Int)),decide (i.toNat<its.length)&&true] (.b 0 (decide (k<(↑(its.getD i.toNat bM).ks.length:Int))) (.r ⟨.normal,e1 (LWS q its dn i k 0),JWS q its dn i (IntKind.i64.wrap (k+1))⟩) (.r ⟨.exit 2,[],IWS q its dn i⟩))
theorem rJS (q:Int) (its:List Itm) (dn:List Bool) (i k:Int):(aEW q its dn i k).Chk (rd aC5 fWS 2 0 ([(4,⟨aE fWS 4,LWS q its dn i k 0,.normal,JWS q its dn i k⟩)]) (JWS q its dn i k)):=chk (by kernel_rfl)
noncomputable def aFF (q:Int) (its:List Itm) (dn:List Bool) (i k:Int):Tr RO:=.o [decide (0≤i),decide (i<(↑its.length:Int)),decide (i.toNat<its.length)&&true] (.b 0 (decide (k<(↑(its.getD i.toNat bM).ks.length:Int))) (.r ⟨.ret,e1 (LWS q its dn i k 0),ZWS q its dn i⟩) (.r ⟨.exit 2,[],IWS q its dn i⟩))
theorem sJS (q:Int) (its:List Itm) (dn:List Bool) (i k:Int):(aFF q its dn i k).Chk (rd aC5 fWS 2 0 ([(4,⟨aE fWS 4,LWS q its dn i k 0,.ret,VWS q its dn i k⟩)]) (JWS q its dn i k)):=chk (by kernel_rfl)
noncomputable def aG5 (q:Int) (its:List Itm) (dn:List Bool) (i:Int):Tr RO:=.d 0 false (decide (i<(↑its.length:Int))) (.r ⟨.exit 0,[],XWS q its dn⟩)
theorem eWS (q:Int) (its:List Itm) (dn:List Bool) (i:Int):(aG5 q its dn i).Chk (rd aC5 fWS 0 0 [] (IWS q its dn i)):=chk (by kernel_rfl)
noncomputable def aEY (q:Int) (its:List Itm) (dn:List Bool) (i:Int):Tr RO:=.b 0 (decide (i<(↑its.length:Int))) (.r ⟨.normal,e1 (JWS q its dn i 0),IWS q its dn (IntKind.i64.wrap (i+1))⟩) (.r ⟨.exit 0,[],XWS q its dn⟩)
theorem rWS (q:Int) (its:List Itm) (dn:List Bool) (i:Int):(aEY q its dn i).Chk (rd aC5 fWS 0 0 ([(2,⟨aE fWS 2,JWS q its dn i 0,.normal,IWS q its dn i⟩)]) (IWS q its dn i)):=chk (by kernel_rfl)
noncomputable def aFH (q:Int) (its:List Itm) (dn:List Bool) (i:Int):Tr RO:=.b 0 (decide (i<(↑its.length:Int))) (.r ⟨.ret,e1 (JWS q its dn i 0),YWS q its dn⟩) (.r ⟨.exit 0,[],XWS q its dn⟩)
theorem sWS (q:Int) (its:List Itm) (dn:List Bool) (i:Int):(aFH q its dn i).Chk (rd aC5 fWS 0 0 ([(2,⟨aE fWS 2,JWS q its dn i 0,.ret,ZWS q its dn i⟩)]) (IWS q its dn i)):=chk (by kernel_rfl)
noncomputable def aEU (q:Int) (its:List Itm) (dn:List Bool):Tr FO:=.o [decide (its.length=its.length),sdI its] (.b 0 (!shB q its) (.o [!shB q its] (.r ⟨AV.c (aI.bool false),[],[]⟩)) (.d 0 true (bif !shB q its then true else(↑dn.length:Int)!=8) (.r ⟨AV.c (aI.bool false),[],[]⟩)))
theorem nWS (q:Int) (its:List Itm) (dn:List Bool):(aEU q its dn).Chk (fo aC5 fWS [] [.agg [.int .i64 q,.view none (.typ .itm its) its.length 2 none,.view none (.bools dn) dn.length 1 none]] []):=chk (by kernel_rfl)
noncomputable def aGI (q:Int) (its:List Itm) (dn:List Bool):Tr FO:=.o [decide (its.length=its.length),sdI its] (.b 0 (!shB q its) (.o [!shB q its] (.r ⟨AV.c (aI.bool false),[],[]⟩)) (.b 0 (bif !shB q its then true else(↑dn.length:Int)!=8) (.r ⟨AV.c (aI.bool false),[],[]⟩) (.r ⟨AV.c (aI.bool true),[],e1 (IWS q its dn 0)⟩)))
theorem xWS (q:Int) (its:List Itm) (dn:List Bool):(aGI q its dn).Chk (fo aC5 fWS ([(0,⟨aE fWS 0,IWS q its dn 0,.normal,XWS q its dn⟩)]) [.agg [.int .i64 q,.view none (.typ .itm its) its.length 2 none,.view none (.bools dn) dn.length 1 none]] []):=chk (by kernel_rfl)
noncomputable def aGS (q:Int) (its:List Itm) (dn:List Bool):Tr FO:=.o [decide (its.length=its.length),sdI its] (.b 0 (!shB q its) (.o [!shB q its] (.r ⟨AV.c (aI.bool false),[],[]⟩)) (.b 0 (bif !shB q its then true else(↑dn.length:Int)!=8) (.r ⟨AV.c (aI.bool false),[],[]⟩) (.r ⟨AV.c (aI.bool false),[],e1 (IWS q its dn 0)⟩)))
theorem yWS (q:Int) (its:List Itm) (dn:List Bool):(aGS q its dn).Chk (fo aC5 fWS ([(0,⟨aE fWS 0,IWS q its dn 0,.ret,YWS q its dn⟩)]) [.agg [.int .i64 q,.view none (.typ .itm its) its.length 2 none,.view none (.bools dn) dn.length 1 none]] []):=chk (by kernel_rfl)
def wj (dn:List Bool) (x:PK) (j:Nat):Bool:= !(dn.getD j false&&x.c.getD j false)
theorem aGE {dn:List Bool} (hd:dn.length=8) (x:PK):wk dn x=cL (wj dn x) 8 0:=by
 unfold wk
 rw[Bool.eq_iff_iff,cF,List.all_eq_true]
 constructor
 ·intro h j _ hj
  unfold wj
  cases hb:dn.getD j false with
  |false=>rfl
  |true=>
   obtain⟨i,hi,e⟩:=GB hd (by omega) hb
   have:=h _ (dC (d:=0) hi)
   rw[e,Int.toNat_natCast]at this
   simpa using this
 ·intro h y hy
  obtain⟨i,hi,rfl⟩:=List.getElem_of_mem hy
  obtain⟨a,h1,h2,h3⟩:=rP hd hi
  rw[List.getD_eq_getElem?_getD,List.getElem?_eq_getElem hi,Option.getD_some]at h3
  have:=h a (Nat.zero_le _) (by omega)
  unfold wj at this
  rw[h2]at this
  rw[h3,Int.toNat_natCast]
  simpa using this
theorem lLW (q:Int) (its:List Itm) (dn:List Bool) (i k:Nat) (hd:dn.length=8) (hi:i<its.length) (hk:k<(its.getD i bM).ks.length) (h8:((its.getD i bM).ks.getD k PK0).c.length=8):
  aP none Tryz.prog 0 (.block 4 (.loop (aC 4 (aB fWS)))) (LWS q its dn i k 0) fun e t=>e=(bif wk dn ((its.getD i bM).ks.getD k PK0)then .normal else .ret)∧t=bif wk dn ((its.getD i bM).ks.getD k PK0)then JWS q its dn i k else VWS q its dn i k:=by
 rw[aGE hd]
 refine aCV aCF (n:=8) (I:=fun j=>LWS q its dn i k j) (.inr rfl) (lc:=fun _=>[]) (fun _ _=>aL.nil) (fun j=>lWS q its dn i k j) (lWS q its dn i k (8:Nat)) (fun j hj=> ?_) ?_
 ·have hw:IntKind.i64.wrap ((j:Int)+1)=((j+1:Nat):Int):=by rw[aF (by omega) (by omega)];rfl
  simp only[aEQ,fS,Int.toNat_natCast,hw]
  unfold wj
  grind
 ·simp only[aEQ,fS];grind
theorem aH1 (q:Int) (its:List Itm) (dn:List Bool) (i:Nat) (hd:dn.length=8) (hi:i<its.length) (hl:(its.getD i bM).ks.length≤274877906944) (h8: ∀x∈(its.getD i bM).ks,x.c.length=8):
  aP none Tryz.prog 0 (.block 2 (.loop (aC 2 (aB fWS)))) (JWS q its dn i 0) fun e t=>e=(bif wi dn (its.getD i bM)then .normal else .ret)∧t=bif wi dn (its.getD i bM)then IWS q its dn i else ZWS q its dn i:=by
 unfold wi
 rw[←AL (d:=PK0)]
 refine aCV aCF (I:=fun k=>JWS q its dn i k) (.inr rfl) (lc:=fun k=>lcB (wk dn ((its.getD i bM).ks.getD k PK0)) 4 (aE fWS 4) (LWS q its dn i k 0) (JWS q its dn i k) (VWS q its dn i k))
  (R:=fun k=>bif wk dn ((its.getD i bM).ks.getD k PK0)then aEW q its dn i k else aFF q its dn i k) (fun k hk=>aCI (lLW q its dn i k hd hi hk (h8 _ (dC hk))) (by kernel_rfl)) (fun k=>aEM (rJS q its dn i k) (sJS q its dn i k)) (eJS q its dn i (its.getD i bM).ks.length) (fun k hk=> ?_) ?_
 ·have hw:IntKind.i64.wrap ((k:Int)+1)=((k+1:Nat):Int):=by rw[aF (by omega) (by omega)];rfl
  cases hb:wk dn ((its.getD i bM).ks.getD k PK0)<;>simp only[cond_true,cond_false,aEW,aFF,fS,Int.toNat_natCast,hw]<;>grind
 ·simp only[aG3,fS,Int.toNat_natCast];grind
theorem aH2 (q:Int) (its:List Itm) (dn:List Bool) (hd:dn.length=8) (hs:sdI its=true) (h:shB q its=true):
  aP none Tryz.prog 0 (.block 0 (.loop (aC 0 (aB fWS)))) (IWS q its dn 0) fun e t=>e=(bif its.all (wi dn)then .normal else .ret)∧t=bif its.all (wi dn)then XWS q its dn else YWS q its dn:=by
 obtain⟨hn,hk⟩:=l6 hs
 have hn8:its.length≤274877906944:=hn
 rw[←AL (d:=bM)]
 refine aCV aCF (I:=fun i=>IWS q its dn i) (.inr rfl) (lc:=fun i=>lcB (wi dn (its.getD i bM)) 2 (aE fWS 2) (JWS q its dn i 0) (IWS q its dn i) (ZWS q its dn i))
  (R:=fun i=>bif wi dn (its.getD i bM)then aEY q its dn i else aFH q its dn i) (fun i hi=>aCI (aH1 q its dn i hd hi (rU (hk i)).1 fun x hx=>aE2 h hi hx) (by kernel_rfl)) (fun i=>aEM (rWS q its dn i) (sWS q its dn i)) (eWS q its dn its.length) (fun i hi=> ?_) ?_
 ·have hw:IntKind.i64.wrap ((i:Int)+1)=((i+1:Nat):Int):=by rw[aF (by omega) (by omega)];rfl
  cases hb:wi dn (its.getD i bM)<;>simp only[cond_true,cond_false,aEY,aFH,fS,Int.toNat_natCast,hw]<;>grind
 ·simp only[aG5,fS];grind
def aEJ:aO:=fun args h=>
 match args,h with
 |[.agg [.int .i64 q,.view _ (.typ .itm its) n 2 _,.view _ (.bools dn) n2 1 _]],[]=>
  some (.c (.bool (woB q its dn)),[],[decide (n=its.length),sdI its,decide (n2=dn.length)])
 |_,_=>none
theorem mWS:aT Tryz.prog 23 aEJ:=by
 intro args h res h' o hnorm he ho
 unfold aEJ at he
 split at he
 case h_2=>cases he
 rename_i q nl its n cap nl2 dn n2 cap2
 simp only[Option.some.injEq,Prod.mk.injEq]at he
 obtain⟨rfl,rfl,rfl⟩:=he
 simp only[List.mem_cons,List.not_mem_nil,or_false,forall_eq_or_imp,forall_eq,decide_eq_true_eq]at ho
 obtain⟨o1,o2,o3⟩:=ho
 simp only[b8,AV.norm,bA,aI.norm,Con.size,List.cons.injEq,AV.c.injEq,AV.agg.injEq,aI.view.injEq,aN,true_and,and_true]at hnorm
 obtain⟨⟨rfl,_,rfl⟩,rfl,_,rfl⟩:=hnorm
 subst o1 o3
 unfold woB
 cases c1:shB q its with
 |false=>exact aC3 aCF (nWS q its dn) (by simp only[aEU,fS,c1,o2];grind)
 |true=>
  cases c2:(dn.length:Int)==8 with
  |false=>exact aC3 aCF (nWS q its dn) (by simp only[aEU,fS,c1,c2,o2,bne];grind)
  |true=>
   have hd:dn.length=8:=by have:=beq_iff_eq.1 c2;omega
   exact aC3 aCF (aFX (xWS q its dn) (yWS q its dn)) (by cases hb:its.all (wi dn)<;>simp only[cond_true,cond_false,aGI,aGS,fS,c1,c2,bne,o2]<;>grind) (aGA (aH2 q its dn hd o2 c1) (by kernel_rfl))
noncomputable def aDD:List aZ:=[⟨25,[],nm aEI⟩,⟨23,[],nm aEJ⟩]++aC5
theorem aG1:aA Tryz.prog aDD:=by
 refine aA.append ?_ aG0
 intro e he
 simp only[List.mem_cons,List.not_mem_nil,or_false]at he
 rcases he with rfl|rfl
 ·exact mWI.ok
 ·exact mWS.ok
theorem aFJ:bL Tryz.prog (aH aDD):=aQ aG1
end
section
noncomputable def aGT (q:Int) (its:List Itm) (dn:List Bool) (l:Int):Tr FO:=.o [decide (its.length=its.length),F6 its,decide (0≤l),decide (l≤1048576)] (.b 0 (decide (szF l (rF its)<0)) (.r ⟨AV.c (aI.int IntKind.i64 (-1)),[],[]⟩) (.o [decide (dn.length≤9223372036854775807),decide (0≤szF l (rF its)),decide (szF l (rF its)≤1048576)] (.b 0 (decide (szF (szF l (rF its)) dn.length<0)) (.r ⟨AV.c (aI.int IntKind.i64 (-1)),[],[]⟩) (.r ⟨AV.c (aI.int IntKind.i64 (szF (szF l (rF its)) dn.length)),[],[]⟩))))
theorem zZW (q:Int) (its:List Itm) (dn:List Bool) (l:Int):(aGT q its dn l).Chk (fo aDD Tryz.f22 ([]) [.agg [.int .i64 q,.view none (.typ .itm its) its.length 2 none,.view none (.bools dn) dn.length 1 none],.c (.int .i64 l)] []):=chk (by kernel_rfl)
def aD1:aO:=fun args h=>
 match args,h with
 |[.agg [.int .i64 q,.view _ (.typ .itm its) n 2 _,.view _ (.bools dn) n2 1 _],.c (.int .i64 l)],[]=>
  some (.c (.int .i64 (szF l (rF its+dn.length))),[],[decide (n=its.length),F6 its,decide (n2=dn.length),decide (dn.length≤9223372036854775807),decide (0≤l),decide (l≤1048576)])
 |_,_=>none
theorem mZW:aT Tryz.prog 22 aD1:=by
 intro args h res h' o hnorm he ho
 unfold aD1 at he
 split at he
 case h_2=>cases he
 rename_i q nl its n cap nl2 dn n2 cap2 l
 simp only[Option.some.injEq,Prod.mk.injEq]at he
 obtain⟨rfl,rfl,rfl⟩:=he
 simp only[List.mem_cons,List.not_mem_nil,or_false,forall_eq_or_imp,forall_eq,decide_eq_true_eq]at ho
 obtain⟨o1,o2,o3,o4,o5,o6⟩:=ho
 simp only[b8,AV.norm,bA,aI.norm,Con.size,List.cons.injEq,AV.c.injEq,AV.agg.injEq,aI.view.injEq,aN,true_and,and_true]at hnorm
 obtain⟨⟨rfl,_,rfl⟩,rfl,_,rfl⟩:=hnorm
 subst o1 o3
 refine aC3 aFJ (zZW q its dn l) ?_
 have a1:=decide_eq_true o4
 simp only[aGT,fS,o2,a1]
 unfold szF
 grind
noncomputable def aEL:List aZ:=[⟨22,[],nm aD1⟩,⟨24,[],dW tt (aH aDD) Tryz.f24 []⟩,⟨26,[],dW tt (aH aDD) Tryz.f26 [(0,false),(0,false)]⟩]++aDD
theorem aGW:aA Tryz.prog aEL:=by
 refine aA.append ?_ aG1
 intro e he
 simp only[List.mem_cons,List.not_mem_nil,or_false]at he
 rcases he with rfl|rfl|rfl
 ·exact mZW.ok
 ·exact cJ hT aFJ bE [] (by kernel_rfl) (by kernel_rfl)
 ·exact cJ hT aFJ bE [(0,false),(0,false)] (by kernel_rfl) (by kernel_rfl)
theorem aHN:bL Tryz.prog (aH aEL):=aQ aGW
noncomputable def aFK (q:Int) (its:List Itm) (dn:List Bool):Tr FO:=.o [decide (its.length=its.length),F6 its,decide (dn.length=dn.length),decide (dn.length≤9223372036854775807)] (.b 0 (decide (szF 1048576 (rF its+dn.length)<0)) (.r ⟨AV.c (aI.bool true),[],[]⟩) (.o [decide (its.length=its.length)&&(decide (its.length≤274877906944)&&(its.all Itm.md&&true))&&(decide (dn.length≤274877906944)&&true),decide (its.length*2=its.length*2),decide (dn.length=dn.length),decide (its.length=its.length),sdI its,decide (dn.length=dn.length),decide (its.length=its.length)&&(decide (its.length≤274877906944)&&(its.all Itm.md&&true))&&(decide (dn.length≤274877906944)&&true),decide (its.length*2=its.length*2),decide (dn.length=dn.length),decide (its.length=its.length),sdI its,decide (dn.length=dn.length)] (.b 0 (!woB q its dn==woB q its dn) (.r ⟨AV.c (aI.bool false),[],[]⟩) (.o [decide (its.length=its.length)&&(decide (its.length≤274877906944)&&(its.all Itm.md&&true))&&(decide (dn.length≤274877906944)&&true),decide (its.length*2=its.length*2),decide (dn.length=dn.length),decide (its.length*2=its.length*2),decide (dn.length=dn.length), !q !=q&&(decide (its.length=its.length)&&(decide (its.length≤274877906944)&&(its.all Itm.md&&(decide (its.length=its.length)&&(decide (its=its)&&true)))))&&(decide (dn.length≤274877906944)&&(decide (dn=dn)&&true))] (.r ⟨AV.c (aI.bool true),[],[]⟩)))))
theorem xLW (q:Int) (its:List Itm) (dn:List Bool):(aFK q its dn).Chk (fo aEL Tryz.f5 ([]) [.agg [.int .i64 q,.view none (.typ .itm its) its.length 2 none,.view none (.bools dn) dn.length 1 none]] []):=chk (by kernel_rfl)
theorem aG9 (q:Int) (its:List Itm) (dn:List Bool) (o:F6 its=true) (o2:dn.length≤9223372036854775807):bF Tryz.prog 5 [.agg [.int .i64 q,.view none (.typ .itm its) its.length 2 none,.view none (.bools dn) dn.length 1 none]] [] (.c (.bool true)) []:=by
 refine aC3 aHN (xLW q its dn) ?_
 have a1:=decide_eq_true o2
 cases c:decide (szF 1048576 (rF its+dn.length)<0)with
 |true=>simp only[aFK,fS,c,o,a1];grind
 |false=>
  have h:=aE3 (of_decide_eq_false c)
  obtain⟨g1,g2,g3⟩:=a1X (its:=its) (by omega)
  have g4:decide (dn.length≤274877906944)=true:=decide_eq_true (by omega)
  simp only[aFK,fS,c,o,a1,g1,g2,g3,g4,beq_self_eq_true,bne_self_eq_false,Bool.not_false,Bool.true_and,rpS,Bool.and_true]
  cases woB q its dn<;>simp
end
end Go.Proofs.YtdnfojanjejdgaaGreat.Am
