/- DERIVED. Part 14 of the proof: P7, C53, C54, P8, C55, P9. No statement of the program is proved here. -/
import Derived.Test.YtdnfojanjejdgaaGreatX13
set_option linter.unusedSimpArgs false
set_option linter.unusedVariables false
set_option linter.unusedSectionVars false
set_option linter.defProp false
namespace Go.Proofs.YtdnfojanjejdgaaGreat.Am
section
structure ZK (k:Int) (c:List Bool):Prop where
 len:(rwL k c).length≤1000
 fs:HL (rwL k c)=true
 tid:eA (rwL k c)=true
 fl:(cD (rwL k c)).length=(cP (rwL k c)).length
 f4:(cD (rwL k c)).length≤4
 pl:d9 (cD (rwL k c)) (flg c).length=true
 ok:BJ k c 8 0 []=true
 by_:AP k c 8 0 []=true
 rows:bI (rwT k c) 8 0 []=rfL k (frL k c)
 inv: ∃X,OU k (frL k c++X)=true∧(4≤(frL k c).length→X=[])
theorem gM {k:Int} {c:List Bool} (hk:bet k 1 2=true) (hc:c.length=8):ZK k c:=
 LB (P:=ZK) (f:=HF) (fun k c h=>by
  simp only[HF,k8,Bool.and_eq_true,rpS,decide_eq_true_eq]at h
  obtain⟨h1,h2⟩:=h
  obtain⟨r1,r2,r3⟩:=B4 (rwL k c) h1 _ (rwL k c).length 0 [] (by omega) rfl h2
  simp only[n7,Bool.and_eq_true,rpS]at r3
  obtain⟨q1,q2,q3,q4⟩:=r3
  obtain⟨o1,o2,o3⟩:=nO k c _ 8 0 [] rfl q4
  simp only[Bool.and_eq_true,rpS,beq_iff_eq]at o3
  obtain⟨X,x1,x2⟩:=oR k _ 8 0 _ _ o3.2
  exact⟨h1,mX fun i hi=>r1 i (by omega) hi,r2,Nat.eq_of_beq_eq_true q1,Nat.le_of_ble_eq_true q2,q3,o1,o2,o3.1,X,x1,x2⟩) U4 U5 U6 U7 hk hc
theorem GR (k:Int) (fr:List Int):(rfL k fr).length=fr.length∧ ∀i,i<fr.length→(rfL k fr).getD i []=bH k (fr.getD i 0):=
 aY (step:=rfS k fr) (fun i o=>o.length=i∧ ∀j,j<i→o.getD j []=bH k (fr.getD j 0)) fr.length [] ⟨rfl,fun j hj=>by omega⟩ fun i o hi h=>by
  refine⟨by simp[rfS,h.1],fun j hj=> ?_⟩
  unfold rfS
  by_cases e:j=i
  ·subst e
   rw[List.getD_eq_getElem?_getD,List.getElem?_append_right (by omega),h.1];simp
  ·rw[List.getD_eq_getElem?_getD,List.getElem?_append_left (by omega),←List.getD_eq_getElem?_getD]
   exact h.2 j (by omega)
structure ZL (k:Int) (T:List Int) (N:Nat→List Int):Prop where
 len:T.length=4
 sh:bD T=true
 nl: ∀i,i<4→(N i).length=4
 right: ∀i j,i<4→j<4→eB (fun q=>zz ((bH k (T.getD i 0)).getD q 0)*zz ((N q).getD j 0)) 4=zz (dl i j)
 left: ∀i q,i<4→q<4→eB (fun j=>zz ((N i).getD j 0)*zz ((bH k (T.getD j 0)).getD q 0)) 4=zz (dl i q)
theorem AT {k:Int} {T:List Int} (h:OU k T=true):ZL k T (fun i=>byD (rfL k T) (unL i)):=by
 simp only[OU,k8,TS,Bool.and_eq_true,rpS]at h
 obtain⟨h1,h2,h3⟩:=h
 have hl:=Nat.eq_of_beq_eq_true h1
 have n4: ∀i:Nat,i<4→[byD (rfL k T) (unL 0),byD (rfL k T) (unL 1),byD (rfL k T) (unL 2),byD (rfL k T) (unL 3)].getD i []=byD (rfL k T) (unL i):=fun i hi=>by
  match i,hi with
  |0,_=>simp only[List.getD_cons_zero,List.getD_cons_succ];exact congrArg _ (show unL 0=unL ((0:Nat):Int)from rfl)
  |1,_=>simp only[List.getD_cons_zero,List.getD_cons_succ];exact congrArg _ (show unL 1=unL ((1:Nat):Int)from rfl)
  |2,_=>simp only[List.getD_cons_zero,List.getD_cons_succ];exact congrArg _ (show unL 2=unL ((2:Nat):Int)from rfl)
  |3,_=>simp only[List.getD_cons_zero,List.getD_cons_succ];exact congrArg _ (show unL 3=unL ((3:Nat):Int)from rfl)
 have m4: ∀i,i<4→(rfL k T).getD i []=bH k (T.getD i 0):=fun i hi=>(GR k T).2 i (by omega)
 have h4:=fun i hi=>aX h3 i hi
 simp only[Bool.and_eq_true,rpS]at h4
 revert n4 m4 h4
 generalize [byD (rfL k T) (unL 0),byD (rfL k T) (unL 1),byD (rfL k T) (unL 2),byD (rfL k T) (unL 3)]=NN
 generalize rfL k T=m
 intro n4 m4 h4
 refine⟨hl,h2,fun i hi=> ?_,fun i j hi hj=> ?_,fun i q hi hq=> ?_⟩
 ·have:=Nat.eq_of_beq_eq_true (h4 i hi).1
  rwa[n4 i hi]at this
 ·have:=nJ (aX (h4 i hi).2.1 j hj)
  rw[jG]at this
  simp only[gY]at this
  rw[←this]
  exact dH fun q hq=>by rw[m4 i hi,n4 q hq]
 ·have:=nJ (aX (h4 i hi).2.2 q hq)
  rw[jG]at this
  simp only[gY]at this
  rw[←this]
  exact dH fun j hj=>by rw[m4 j hj,n4 i hi]
theorem fM {α:Type} {xs ys:List α} {d:α} {i:Nat} (h:i<xs.length):(xs++ys).getD i d=xs.getD i d:=by
 rw[List.getD_eq_getElem?_getD,List.getElem?_append_left h,←List.getD_eq_getElem?_getD]
theorem gI {α:Type} {xs:List α} {y d:α}:(xs++[y]).getD xs.length d=y:=by
 rw[List.getD_eq_getElem?_getD,List.getElem?_append_right (Nat.le_refl _)];simp
theorem sS {k:Int} {rows:List (List Int)} {i:Nat} (h:G7 k rows i=true):(byD rows (bH k i)).length=rows.length∧ ∀d,eB (fun j=>zz ((byD rows (bH k i)).getD j 0)*dz (rows.getD j []) d) rows.length=dz (bH k i) d:=by
 simp only[G7,n7,Bool.and_eq_true,rpS]at h
 refine⟨Nat.eq_of_beq_eq_true h.1,fun d=> ?_⟩
 refine rX _ _ (fun j=>rows.getD j []) _ d fun q hq=> ?_
 have:=nJ (aX h.2 q hq)
 rw[jG]at this
 simp only[gY]at this
 exact this
theorem B0 (v w:List Int):fok (dL v w)=true:=by
 have e: ∀(f i:Nat) (n:Int),fok n=true→fok (qE v w f i n)=true:=by
  intro f
  induction f with
  |zero=>intro i n h;exact h
  |succ f ih=>intro i n h;exact ih (i+1) _ (cB _)
 exact e _ _ _ rfl
theorem JB {k:Int} {w:List Int} {c:List Bool} {d:List Int} (hk:bet k 1 2=true) (hc:c.length=8) (hw:aD w=true) (h:Fit k w c d):sfL k w c=true:=by
 have B:=gM hk hc
 have key:=gU (step:=sfS k w c) (fun i s=>(∀j,j<s.1.length→zz (s.2.getD j 0)=dz (s.1.getD j []) d)∧s.2.length=s.1.length∧AP k c (8-i) i s.1=true) (fun _=>False) 8 0 ([],[]) ⟨fun j hj=>by simp at hj,rfl,B.by_⟩ (fun i s _ hi hs=>by
  obtain⟨h1,h2,h3⟩:=hs
  rw[show 8-i=(8-(i+1))+1 from by omega]at h3
  simp only[AP,Bool.and_eq_true,rpS]at h3
  obtain⟨h3,h4⟩:=h3
  unfold sfS
  unfold rwT at h4
  cases hq:c.getD i false with
  |false=>
   rw[hq,Bool.false_and,cond_false]at h4
   rw[cond_false]
   exact⟨fun b' e=>by injection e with e;subst e;exact⟨h1,h2,h4⟩,fun _ e=>by cases e⟩
  |true=>
   rw[hq,Bool.true_and]at h3 h4
   rw[cond_true]
   cases hh:iC s.1 (bH k i)with
   |false=>
    rw[hh,Bool.not_false,cond_true]at h4
    rw[cond_false]
    refine⟨fun b' e=> ?_,fun _ e=>by cases e⟩
    injection e with e;subst e
    refine⟨fun j hj=> ?_,by simp[h2],h4⟩
    dsimp only at hj⊢
    rw[List.length_append]at hj
    by_cases ej:j<s.1.length
    ·rw[fM (by omega),fM ej];exact h1 j ej
    ·have:j=s.1.length:=by simp at hj;omega
     subst this
     rw[gI,←h2,gI,←h i (by omega) hq,i8]
   |true=>
    rw[hh,Bool.not_true,cond_false]at h4
    rw[hh,cond_true]at h3
    rw[cond_true]
    obtain⟨b1,b2⟩:=sS h3
    have e:dL (byD s.1 (bH k i)) s.2=w.getD i 0:=by
     refine vH (B0 _ _) (aU hw _) ?_
     rw[zY,b1,←h i (by omega) hq,i8,←b2 d]
     exact dH fun j hj=>by rw[h1 j hj]
    rw[e]
    have:(w.getD i 0 !=w.getD i 0)=false:=by simp
    rw[this,cond_false]
    exact⟨fun b' e=>by injection e with e;subst e;exact⟨h1,h2,h4⟩,fun _ e=>by cases e⟩)
 unfold sfL
 revert key
 cases cG (sfS k w c) 8 0 ([],[])with
 |inl _=>exact fun _=>rfl
 |inr _=>exact fun h=>h.elim
theorem xD {β:Type} (s:Nat→β→β): ∀(f i:Nat) (o:β),bI s (f+1) i o=s (i+f) (bI s f i o)
 |0,i,o=>rfl
 |f+1,i,o=>by
  have:=xD s f (i+1) (s i o)
  rw[show i+1+f=i+(f+1)from by omega]at this;exact this
theorem HJ {k:Int} {w:List Int} {c:List Bool} (hk:bet k 1 2=true) (hc:c.length=8) (hw:aD w=true) (h:sfL k w c=true): ∃d,Fit k w c d:=by
 have B:=gM hk hc
 have key:=gU (step:=sfS k w c) (fun i s=>(s.1=bI (rwT k c) i 0 []∧AP k c (8-i) i s.1=true)∧s.2.length=s.1.length∧ ∀a,a<i→c.getD a false=true→ ∀d,(∀j,j<s.1.length→dz (s.1.getD j []) d=zz (s.2.getD j 0))→dz (bH k a) d=zz (w.getD a 0)) (fun _=>True) 8 0 ([],[]) ⟨⟨rfl,B.by_⟩,rfl,fun a ha=>by omega⟩ (fun i s _ hi hs=>by
  obtain⟨⟨h1,h3⟩,h2,h5⟩:=hs
  rw[show 8-i=(8-(i+1))+1 from by omega]at h3
  simp only[AP,Bool.and_eq_true,rpS]at h3
  obtain⟨h3,h4⟩:=h3
  have e1:bI (rwT k c) (i+1) 0 []=rwT k c i s.1:=by rw[xD,Nat.zero_add,h1]
  unfold sfS
  unfold rwT at h4 e1
  cases hq:c.getD i false with
  |false=>
   rw[hq,Bool.false_and,cond_false]at h4 e1
   rw[cond_false]
   refine⟨fun b' e=> ?_,fun _ e=>trivial⟩
   injection e with e;subst e
   refine⟨⟨e1.symm,h4⟩,h2,fun a ha hca d hd=> ?_⟩
   by_cases ea:a=i
   ·subst ea;rw[hq]at hca;cases hca
   ·exact h5 a (by omega) hca d hd
  |true=>
   rw[hq,Bool.true_and]at h3 h4 e1
   rw[cond_true]
   cases hh:iC s.1 (bH k i)with
   |false=>
    rw[hh,Bool.not_false,cond_true]at h4 e1
    rw[cond_false]
    refine⟨fun b' e=> ?_,fun _ e=>trivial⟩
    injection e with e;subst e
    refine⟨⟨e1.symm,h4⟩,by simp[h2],fun a ha hca d hd=> ?_⟩
    dsimp only at hd
    by_cases ea:a=i
    ·subst ea
     have:=hd s.1.length (by simp)
     rw[gI,←h2,gI]at this
     exact this
    ·refine h5 a (by omega) hca d fun j hj=> ?_
     have:=hd j (by simp;omega)
     rwa[fM hj,fM (by omega)]at this
   |true=>
    rw[hh,Bool.not_true,cond_false]at h4 e1
    rw[hh,cond_true]at h3
    rw[cond_true]
    obtain⟨b1,b2⟩:=sS h3
    cases hd:(dL (byD s.1 (bH k i)) s.2 !=w.getD i 0)with
    |true=>rw[cond_true];exact⟨fun b' e=>(by cases e),fun _ _=>trivial⟩
    |false=>
     rw[cond_false]
     refine⟨fun b' e=> ?_,fun _ e=>trivial⟩
     injection e with e;subst e
     refine⟨⟨e1.symm,h4⟩,h2,fun a ha hca d hdd=> ?_⟩
     by_cases ea:a=i
     ·subst ea
      have hd':dL (byD s.1 (bH k a)) s.2=w.getD a 0:=by simpa using hd
      rw[←hd',zY,b1,←b2 d]
      exact dH fun j hj=>by rw[hdd j hj]
     ·exact h5 a (by omega) hca d hdd)
 unfold sfL at h
 revert key h
 cases cG (sfS k w c) 8 0 ([],[])with
 |inr _=>intro h' _;exact absurd h' (by simp)
 |inl s=>
  intro _ key
  dsimp only at key
  obtain⟨⟨k1,-⟩,k2,k3⟩:=key
  rw[Nat.zero_add,B.rows]at k1
  obtain⟨X,x1,-⟩:=B.inv
  have I:=AT x1
  obtain⟨l1,l2⟩:=GR k (frL k c)
  generalize hT:frL k c=T at*
  let N:Nat→List Int:=fun i=>byD (rfL k (T++X)) (unL i)
  let g:Nat→Int:=fun j=>s.2.getD j 0
  let dd:Nat→Int:=fun q=>vZ (fun j=>(N q).getD j 0*g j) 4
  refine⟨[dd 0,dd 1,dd 2,dd 3],fun a ha hca=>vH (k6 _ _ _) (aU hw _) ?_⟩
  rw[i8]
  refine k3 a (by omega) hca _ fun i hi=> ?_
  rw[k1,l1]at hi
  have hT4:T.length≤4:=by have:=I.len;rw[List.length_append]at this;omega
  rw[k1,l2 i hi]
  have hr:=fun j hj=>I.right i j (by omega) hj
  rw[fM hi]at hr
  have hz: ∀q,zz (dd q)=eB (fun j=>zz ((N q).getD j 0)*zz (g j)) 4:=fun q=>by
   show zz (vZ _ 4)=_
   rw[jG];simp only[gY]
  have h0:=hr 0 (by omega)
  have h1:=hr 1 (by omega)
  have h2:=hr 2 (by omega)
  have h3:=hr 3 (by omega)
  simp only[dz,List.getD_cons_zero,List.getD_cons_succ,hz]
  show _=zz (g i)
  simp only[eB]at h0 h1 h2 h3⊢
  have hi4:i=0∨i=1∨i=2∨i=3:=by omega
  have d1:zz (dl 0 0)=1:=rfl
  rcases hi4 with rfl|rfl|rfl|rfl
  ·have e0:zz (dl 0 0)=1:=rfl
   have e1:zz (dl 0 1)=0:=rfl
   have e2:zz (dl 0 2)=0:=rfl
   have e3:zz (dl 0 3)=0:=rfl
   rw[e0]at h0;rw[e1]at h1;rw[e2]at h2;rw[e3]at h3
   clear hr k3 hz
   grind
  ·have e0:zz (dl 1 0)=0:=rfl
   have e1:zz (dl 1 1)=1:=rfl
   have e2:zz (dl 1 2)=0:=rfl
   have e3:zz (dl 1 3)=0:=rfl
   rw[e0]at h0;rw[e1]at h1;rw[e2]at h2;rw[e3]at h3
   clear hr k3 hz
   grind
  ·have e0:zz (dl 2 0)=0:=rfl
   have e1:zz (dl 2 1)=0:=rfl
   have e2:zz (dl 2 2)=1:=rfl
   have e3:zz (dl 2 3)=0:=rfl
   rw[e0]at h0;rw[e1]at h1;rw[e2]at h2;rw[e3]at h3
   clear hr k3 hz
   grind
  ·have e0:zz (dl 3 0)=0:=rfl
   have e1:zz (dl 3 1)=0:=rfl
   have e2:zz (dl 3 2)=0:=rfl
   have e3:zz (dl 3 3)=1:=rfl
   rw[e0]at h0;rw[e1]at h1;rw[e2]at h2;rw[e3]at h3
   clear hr k3 hz
   grind
theorem QV {k:Int} {w:List Int} {c:List Bool} (hk:bet k 1 2=true) (hc:c.length=8) (hw:aD w=true):sfL k w c=cH k w (flg c):=by
 rw[Bool.eq_iff_iff]
 constructor
 ·intro h
  obtain⟨d,hd⟩:=HJ hk hc hw h
  exact qG hk hc hd
 ·intro h
  exact JB hk hc hw ((n8 hc).1 h)
theorem M1 {k:Int} {c:List Bool} (hk:bet k 1 2=true) (hc:c.length=8) {j:Nat} (hj:j<(frL k c).length): ∃a:Nat,a<8∧c.getD a false=true∧(frL k c).getD j 0=(a:Int):=by
 have B:=gM hk hc
 have hg: ∀i,i<(cD (rwL k c)).length→(frL k c).getD i 0=(flg c).getD ((cD (rwL k c)).getD i 0).toNat 0:=by
  have:=aY (step:=frS c (cD (rwL k c))) (fun i o=>o.length=i∧ ∀j,j<i→o.getD j 0=(flg c).getD ((cD (rwL k c)).getD j 0).toNat 0) (cD (rwL k c)).length [] ⟨rfl,fun j hj=>by omega⟩ fun i o hi h=>by
   refine⟨by simp[frS,h.1],fun j hj=> ?_⟩
   unfold frS
   by_cases e:j=i
   ·subst e;rw[show j=o.length from h.1.symm,gI]
   ·rw[fM (by omega)];exact h.2 j (by omega)
  exact this.2
 rw[kU]at hj
 have hp:=gR B.pl hj
 obtain⟨a,h1,h2,h3⟩:=rP hc (i:=((cD (rwL k c)).getD j 0).toNat) (by omega)
 exact⟨a,h1,h2,by rw[hg j hj];exact h3⟩
theorem M2 {k:Int} {c:List Bool} (hk:bet k 1 2=true) (hc:c.length=8):(frL k c).length≤4∧bD (frL k c)=true∧((frL k c).length=4↔c8 k (flg c)=true):=by
 have B:=gM hk hc
 obtain⟨-,-,-,p4⟩:=AS hk hc
 refine⟨by rw[kU];exact B.f4, ?_, ?_⟩
 ·simp only[bD,List.all_eq_true]
  intro x hx
  obtain⟨i,hi⟩:=List.getElem?_of_mem hx
  obtain⟨a,h1,-,h3⟩:=M1 hk hc (List.getElem?_eq_some_iff.1 hi).1
  rw[List.getD_eq_getElem?_getD,hi]at h3
  have:x=(a:Int):=h3
  rw[this,bQ];omega
 ·rw[←p4,kU,B.fl,beq_iff_eq];omega
theorem wA {k:Int} {c:List Bool} (hk:bet k 1 2=true) (hc:c.length=8) (hb:c8 k (flg c)=true):ZL k (frL k c) (fun i=>byD (rfL k (frL k c)) (unL i)):=by
 have B:=gM hk hc
 obtain⟨X,x1,x2⟩:=B.inv
 have:=x2 (by have:=(M2 hk hc).2.2.2 hb;omega)
 subst this
 rw[List.append_nil]at x1
 exact AT x1
theorem ZI (b w fr:List Int):zz (dtN b w fr)=eB (fun j=>zz (b.getD j 0)*zz (w.getD (fr.getD j 0).toNat 0)) fr.length:=
 pH (s:=dtS b w fr) _ fun i x _=>by simp only[dtS,vI,mT,gY]
theorem OV (b w fr:List Int):fok (dtN b w fr)=true:=
 aY (step:=dtS b w fr) (fun _ x=>fok x=true) fr.length 0 rfl fun i x _ _=>cB _
theorem OW {i:Nat} (hi:i<4) (d:List Int):dz [dl i 0,dl i 1,dl i 2,dl i 3] d=zz (d.getD i 0):=by
 have e1:zz 1=1:=rfl
 have e0:zz 0=0:=rfl
 match i,hi with
 |0,_=>simp only[dz,dl,List.getD_cons_zero,List.getD_cons_succ,Nat.beq,cond_true,cond_false,e1,e0];grind
 |1,_=>simp only[dz,dl,List.getD_cons_zero,List.getD_cons_succ,Nat.beq,cond_true,cond_false,e1,e0];grind
 |2,_=>simp only[dz,dl,List.getD_cons_zero,List.getD_cons_succ,Nat.beq,cond_true,cond_false,e1,e0];grind
 |3,_=>simp only[dz,dl,List.getD_cons_zero,List.getD_cons_succ,Nat.beq,cond_true,cond_false,e1,e0];grind
theorem a0A (f:Nat→Int):bI (fun i o=>o++[f i]) 4 0 []=[f 0,f 1,f 2,f 3]:=rfl
theorem AY {k:Int} {w:List Int} {c:List Bool} {d:List Int} (hk:bet k 1 2=true) (hc:c.length=8) (hb:c8 k (flg c)=true) (hf:aD d=true) (h:Fit k w c d):dlL k w (frL k c)=[d.getD 0 0,d.getD 1 0,d.getD 2 0,d.getD 3 0]:=by
 have I:=wA hk hc hb
 have e: ∀i:Nat,i<4→dtN (byD (rfL k (frL k c)) (unL i)) w (frL k c)=d.getD i 0:=fun i hi=>by
  refine vH (OV _ _ _) (aU hf i) ?_
  rw[ZI,I.len]
  have e1:eB (fun j=>zz ((byD (rfL k (frL k c)) (unL i)).getD j 0)*zz (w.getD ((frL k c).getD j 0).toNat 0)) 4=eB (fun j=>zz ((byD (rfL k (frL k c)) (unL i)).getD j 0)*dz (bH k ((frL k c).getD j 0)) d) 4:=by
   refine dH fun j hj=> ?_
   obtain⟨a,h1,h2,h3⟩:=M1 hk hc (j:=j) (by rw[I.len];exact hj)
   rw[h3,Int.toNat_natCast,←h a h1 h2,i8]
  rw[e1,rX 4 _ (fun j=>bH k ((frL k c).getD j 0)) [dl i 0,dl i 1,dl i 2,dl i 3] d fun q hq=> ?_]
  ·exact OW hi d
  ·rw[I.left i q hi hq]
   match q,hq with
   |0,_|1,_|2,_|3,_=>rfl
 have e4:dlL k w (frL k c)=_:=a0A (fun i=>dtN (byD (rfL k (frL k c)) (unL i)) w (frL k c))
 rw[e4,e 0 (by omega),e 1 (by omega),e 2 (by omega),e 3 (by omega)]
theorem LQ {k:Int} {w:List Int} {c:List Bool} (hk:bet k 1 2=true) (hc:c.length=8) (hb:c8 k (flg c)=true) (hf:cH k w (flg c)=true):dlL k w (frL k c)=X2 k w (flg c):=
 AY hk hc hb (C5 hk (oT hc)) ((n8 hc).1 hf)
end
section
def K9:aO:=fun args h=>
 match args,h with
 |[.c (.int .i64 k),.c (.view _ (.ints .i64 w) n1 1 _),.c (.view _ (.bools c) n2 1 _)],[]=>
  some (.c (.bool (cH k w (flg c))),[],[bet k 1 2,decide (w.length=8),aD w,decide (c.length=8)])
 |_,_=>none
theorem a1N:aT Tryz.prog 158 K9:=by
 intro args h res h' o hnorm he ho
 unfold K9 at he
 split at he
 case h_2=>cases he
 rename_i k nl w n1 cap nl2 c n2 cap2
 simp only[Option.some.injEq,Prod.mk.injEq]at he
 obtain⟨rfl,rfl,rfl⟩:=he
 simp only[List.mem_cons,List.not_mem_nil,or_false,forall_eq_or_imp,forall_eq,decide_eq_true_eq]at ho
 obtain⟨o1,o2,o3,o4⟩:=ho
 rw[←QV o1 o4 o3]
 exact a1M _ _ _ _ _ hnorm rfl (by simp[o1,o2,o3,o4,(gM o1 o4).ok])
noncomputable def T57:List aZ:=[⟨158,[],nm K9⟩]++T56
theorem e57:aA Tryz.prog T57:=by
 refine aA.append ?_ e56
 intro e he
 simp only[List.mem_cons,List.not_mem_nil,or_false]at he
 subst he;exact a1N.ok
theorem t57:bL Tryz.prog (aH T57):=aQ e57
def zS (k:Int) (w:List Int) (c:List Bool):=bt4 (aJ tt (aH T57) ([]) 100 Tryz.f161 [.c (.int .i64 k),.c (.view none (.ints .i64 w) w.length 1 none),.c (.view none (.bools c) c.length 1 none)] []) (frL k c) ([.c (.sl 0 0 0 1 none),.c (.bool false)]:List AV) (rwL k c) (P:=fun q0 q1 q2 q3=>q0 [(0,true)]=
  some ⟨.tup q2,[.live (.ints .i64 [])],(rp5 (!cbB k c) ((!cbB k c)&&true)),[]⟩∧q0 [(0,false),(0,true)]=
  some ⟨.tup q2,[.live (.ints .i64 [])],(rp4 (!!cbB k c) (bet k 1 2&&(decide (w.length=8)&&(aD w&&(decide (c.length=8)&&(!!cbB k c&&((bif !cbB k c then true else !cH k w (flg c))&&true))))))),[]⟩∧q0 [(0,false),(0,false)]=
  some ⟨.tup [.c (.sl 0 0 4 1 none),.c (.bool true)],[.live (.ints .i64 (dlL k w q1))],(rp4 (!!cbB k c) (bet k 1 2&&(decide (w.length=8)&&(aD w&&(decide (c.length=8)&&(!!cbB k c&&((!bif !cbB k c then true else !cH k w (flg c))&&(bet k 1 2&&(decide (c.length=8)&&(decide (q3.length≤1000)&&(HL q3&&(d9 (cD q3) (flg c).length&&(decide ((cD q3).length≤1000)&&(decide (q1.length=q1.length)&&(bet k 1 2&&(bD q1&&(decide (q1.length≤8)&&(aD w&&(decide (w.length=8)&&((cN (fun i=>q1.length.ble (byD (rfL k q1) (unL (↑i:Int))).length) 4)&&true)))))))))))))))))))),[]⟩) ⟨by kernel_rfl,by kernel_rfl,by kernel_rfl⟩
def XE (k:Int) (w:List Int) (c:List Bool):=(zS k w c).1
def XF (k:Int) (w:List Int) (c:List Bool):=(zS k w c).2.1
def XG (k:Int) (w:List Int) (c:List Bool):=(zS k w c).2.2
def D7:aO:=fun args h=>
 match args,h with
 |[.c (.int .i64 k),.c (.view _ (.ints .i64 w) n1 1 _),.c (.view _ (.bools c) n2 1 _)],[]=>
  some (.tup [.c (.sl 0 0 (rdX k w (flg c)).length 1 none),.c (.bool (rdB k w (flg c)))],[.live (.ints .i64 (rdX k w (flg c)))],[bet k 1 2,decide (w.length=8),aD w,decide (c.length=8)])
 |_,_=>none
theorem a9W:aT Tryz.prog 161 D7:=by
 intro args h res h' o hnorm he ho
 unfold D7 at he
 split at he
 case h_2=>cases he
 rename_i k nl w n1 cap nl2 c n2 cap2
 simp only[Option.some.injEq,Prod.mk.injEq]at he
 obtain⟨rfl,rfl,rfl⟩:=he
 simp only[List.mem_cons,List.not_mem_nil,or_false,forall_eq_or_imp,forall_eq,decide_eq_true_eq]at ho
 obtain⟨o1,o2,o3,o4⟩:=ho
 simp only[b8,AV.norm,bA,aI.norm,Con.size,List.cons.injEq,AV.c.injEq,AV.agg.injEq,aI.view.injEq,aN,true_and,and_true]at hnorm
 obtain⟨⟨rfl,rfl,rfl⟩,rfl,rfl,rfl⟩:=hnorm
 have B:=gM o1 o4
 obtain⟨f1,f2,f3⟩:=M2 o1 o4
 have hcb:cbB k c=c8 k (flg c):=by unfold cbB;rw[o1,o4];rfl
 unfold rdX rdB
 cases hb:c8 k (flg c)with
 |false=>
  exact mo t57 (XE k w c) (by simp only[hcb,hb,o1,o2,o3,o4,bS,rpS])
 |true=>
  cases hf:cH k w (flg c)with
  |false=>
   exact mo t57 (XF k w c) (by simp only[hcb,hb,hf,o1,o2,o3,o4,bS,rpS])
  |true=>
   have e:=XG k w c
   rw[LQ o1 o4 hb hf]at e
   have hN:cN (fun i=>Nat.ble (frL k c).length (byD (rfL k (frL k c)) (unL i)).length) 4=true:=mX fun i hi=>Nat.ble_eq_true_of_le (by rw[(wA o1 o4 hb).nl i hi];omega)
   have l1:=B.len
   have l2:=B.f4
   exact mo t57 e (by simp only[hcb,hb,hf,o1,o2,o3,o4,hN,f2,B.fs,B.pl,bS,rpS];omega)
noncomputable def T58:List aZ:=[⟨161,[],nm D7⟩]++T57
theorem e58:aA Tryz.prog T58:=by
 refine aA.append ?_ e57
 intro e he
 simp only[List.mem_cons,List.not_mem_nil,or_false]at he
 subst he;exact a9W.ok
theorem t58:bL Tryz.prog (aH T58):=aQ e58
end
section
noncomputable abbrev f57:=Tryz.f110
noncomputable def I57 (k:Int) (a b:List Int) (c:List Bool) (i:Int):St:=aS f57.ntmps [(1,.c (.ptr 0 0 0 0)),(3,.c (.int .i64 i))] [.live (.cells [.int .i64 k,.view none (.ints .i64 a) a.length 1 none,.view none (.ints .i64 b) b.length 1 none,.view none (.bools c) c.length 1 none])]
noncomputable def X57:St:=aS f57.ntmps [] []
noncomputable def Y57:St:=aS f57.ntmps [(2,.c (.bool false))] []
def mM (k:Int) (a b:List Int) (c:List Bool) (i:Int):=ZT (aM tt (aH T58) ([]) 0 100 (aC 0 (aB f57)) (I57 k a b c i)) (b.getD i.toNat 0) (!bif !c.getD i.toNat false then bif a.getD i.toNat 0 !=0 then true else b.getD i.toNat 0 !=0 else false) (!c.getD i.toNat false) (aK 0 (aE f57 0) (aG f57 0)) (c.getD i.toNat false) (↑c.length:Int) (!a.getD i.toNat 0 !=0) (↑b.length:Int) (!!c.getD i.toNat false) (↑a.length:Int) (IntKind.i64.wrap (i+1)) (a.getD i.toNat 0 !=0) (P:=fun q0 q1 q2 q3 q4 q5 q6 q7 q8 q9 q10 q11 q12=>q4 (q0 [(0,true),(0,true),(0,true),(0,true)])=
  some (.ret,(decide (i<8)&&(decide (0≤i)&&(decide (i<q6)&&(decide (i.toNat<c.length)&&(rp4 q3 (decide (0≤i)&&(decide (i<q10)&&(q3&&(decide (i.toNat<a.length)&&(rp2 q3 (rp6 q12 (q3&&(q12&&(rp8 (bif !c.getD i.toNat false then true else false) true)))))))))))))),[],Y57)∧q4 (q0 [(0,true),(0,true),(0,false),(0,true)])=
  some (.ret,(decide (i<8)&&(decide (0≤i)&&(decide (i<q6)&&(decide (i.toNat<c.length)&&(rp4 q3 (decide (0≤i)&&(decide (i<q10)&&(q3&&(decide (i.toNat<a.length)&&(rp2 q3 (rp4 q7 (decide (0≤i)&&(decide (i<q8)&&(q7&&(decide (i.toNat<b.length)&&(q7&&(q3&&(rp8 (bif !c.getD i.toNat false then bif a.getD i.toNat 0 !=0 then true else b.getD i.toNat 0 !=0 else false) true)))))))))))))))))),[],Y57)∧q4 (q0 [(0,true),(0,true),(0,false),(0,false),(0,false),(0,false)])=
  some (.normal,(decide (i<8)&&(decide (0≤i)&&(decide (i<q6)&&(decide (i.toNat<c.length)&&(rp4 q3 (decide (0≤i)&&(decide (i<q10)&&(q3&&(decide (i.toNat<a.length)&&(rp2 q3 (rp4 q7 (decide (0≤i)&&(decide (i<q8)&&(q7&&(decide (i.toNat<b.length)&&(q7&&(q3&&(rp4 q2 (decide (0≤i)&&(decide (i<q6)&&(q2&&(decide (i.toNat<c.length)&&(q2&&(rp9 q3 (q2&&(q3&&((!bif bif !c.getD i.toNat false then bif a.getD i.toNat 0 !=0 then true else b.getD i.toNat 0 !=0 else false then true else false)&&true))))))))))))))))))))))))))),[],I57 k a b c q11)∧q4 (q0 [(0,true),(0,false),(1,true),(0,true),(0,true)])=
  some (.ret,(decide (i<8)&&(decide (0≤i)&&(decide (i<q6)&&(decide (i.toNat<c.length)&&(rp9 q9 (decide (0≤i)&&(decide (i<q6)&&(decide (i.toNat<c.length)&&(rp4 q5 (decide (0≤i)&&(decide (i<q8)&&(q5&&(decide (i.toNat<b.length)&&(rp3 q5 (rp4 (!bet q1 1 99) (rp9 (!bet q1 1 99) (q5&&(!bet q1 1 99&&((bif c.getD i.toNat false then true else false)&&true))))))))))))))))))),[],Y57)∧q4 (q0 [(0,true),(0,false),(1,true),(0,false),(0,true)])=
  some (.ret,(decide (i<8)&&(decide (0≤i)&&(decide (i<q6)&&(decide (i.toNat<c.length)&&(rp9 q9 (decide (0≤i)&&(decide (i<q6)&&(decide (i.toNat<c.length)&&(rp4 q5 (decide (0≤i)&&(decide (i<q8)&&(q5&&(decide (i.toNat<b.length)&&(rp3 q5 (rp9 (!!bet q1 1 99) (decide (0≤i)&&(decide (i<q8)&&(!!bet q1 1 99&&(decide (i.toNat<b.length)&&(!!bet q1 1 99&&(decide (c.length≤274877906944)&&(decide (b.length=c.length)&&(!!bet q1 1 99&&(decide (c.length=(bJ b c q1).length)&&(bet k 1 2&&(decide (a.length=8)&&(aD a&&(decide ((bJ b c q1).length=8)&&(!!bet q1 1 99&&(q5&&((bif c.getD i.toNat false then bif !bet q1 1 99 then true else !cH k a (flg (bJ b c q1))else false)&&true))))))))))))))))))))))))))))))),[],Y57)∧q4 (q0 [(0,true),(0,false),(1,true),(0,false),(0,false)])=
  some (.normal,(decide (i<8)&&(decide (0≤i)&&(decide (i<q6)&&(decide (i.toNat<c.length)&&(rp9 q9 (decide (0≤i)&&(decide (i<q6)&&(decide (i.toNat<c.length)&&(rp4 q5 (decide (0≤i)&&(decide (i<q8)&&(q5&&(decide (i.toNat<b.length)&&(rp3 q5 (rp9 (!!bet q1 1 99) (decide (0≤i)&&(decide (i<q8)&&(!!bet q1 1 99&&(decide (i.toNat<b.length)&&(!!bet q1 1 99&&(decide (c.length≤274877906944)&&(decide (b.length=c.length)&&(!!bet q1 1 99&&(decide (c.length=(bJ b c q1).length)&&(bet k 1 2&&(decide (a.length=8)&&(aD a&&(decide ((bJ b c q1).length=8)&&(!!bet q1 1 99&&(q5&&((!bif c.getD i.toNat false then bif !bet q1 1 99 then true else !cH k a (flg (bJ b c q1))else false)&&true))))))))))))))))))))))))))))))),[],I57 k a b c q11)∧q4 (q0 [(0,false)])=
  some (.exit 0,((!decide (i<8))&&true),[],X57)) ⟨by kernel_rfl,by kernel_rfl,by kernel_rfl,by kernel_rfl,by kernel_rfl,by kernel_rfl,by kernel_rfl⟩
def a2J (k:Int) (a b:List Int) (c:List Bool) (i:Int):=(mM k a b c i).1
def a2K (k:Int) (a b:List Int) (c:List Bool) (i:Int):=(mM k a b c i).2.1
def a2L (k:Int) (a b:List Int) (c:List Bool) (i:Int):=(mM k a b c i).2.2.1
def a2M (k:Int) (a b:List Int) (c:List Bool) (i:Int):=(mM k a b c i).2.2.2.1
def a2N (k:Int) (a b:List Int) (c:List Bool) (i:Int):=(mM k a b c i).2.2.2.2.1
def a2O (k:Int) (a b:List Int) (c:List Bool) (i:Int):=(mM k a b c i).2.2.2.2.2.1
def a2P (k:Int) (a b:List Int) (c:List Bool) (i:Int):=(mM k a b c i).2.2.2.2.2.2
def FH (k:Int) (a b:List Int) (c:List Bool) (lcv:List (Nat×LC)):=bt1 (aJ tt (aH T58) (lcv) 100 f57 [.agg [.int .i64 k,.view none (.ints .i64 a) a.length 1 none,.view none (.ints .i64 b) b.length 1 none,.view none (.bools c) c.length 1 none]] []) (P:=fun q0=>q0 [(0,true)]=
  some ⟨.c (.bool false),[],(rp6 (!bet k 1 2) ((!bet k 1 2)&&true)),[]⟩∧q0 [(0,false),(0,true)]=
  some ⟨.c (.bool false),[],(rp5 (!!bet k 1 2) (decide (a.length≤274877906944)&&(!!bet k 1 2&&(rp5 (bif !bet k 1 2 then true else !cT a c) true)))),[]⟩∧q0 [(0,false),(0,false),(0,true)]=
  some ⟨.c (.bool false),[],(rp5 (!!bet k 1 2) (decide (a.length≤274877906944)&&(!!bet k 1 2&&(rp4 (!bif !bet k 1 2 then true else !cT a c) ((bif bif !bet k 1 2 then true else !cT a c then true else(↑b.length:Int)!=8)&&true))))),[]⟩) ⟨by kernel_rfl,by kernel_rfl,by kernel_rfl⟩
def a6B (k:Int) (a b:List Int) (c:List Bool) (lcv:List (Nat×LC)):=(FH k a b c lcv).1
def a6C (k:Int) (a b:List Int) (c:List Bool) (lcv:List (Nat×LC)):=(FH k a b c lcv).2.1
def a6D (k:Int) (a b:List Int) (c:List Bool) (lcv:List (Nat×LC)):=(FH k a b c lcv).2.2
theorem a6E (k:Int) (a b:List Int) (c:List Bool):aJ tt (aH T58) ([(0,⟨aE f57 0,I57 k a b c 0,.normal,X57⟩)]) 100 f57 [.agg [.int .i64 k,.view none (.ints .i64 a) a.length 1 none,.view none (.ints .i64 b) b.length 1 none,.view none (.bools c) c.length 1 none]] [] [(0,false),(0,false),(0,false)]=
  some ⟨.c (.bool true),[],(rp5 (!!bet k 1 2) (decide (a.length≤274877906944)&&(!!bet k 1 2&&(rp4 (!bif !bet k 1 2 then true else !cT a c) ((!bif bif !bet k 1 2 then true else !cT a c then true else(↑b.length:Int)!=8)&&true))))),[I57 k a b c 0=I57 k a b c 0]⟩:=by kernel_rfl
def S0 (k:Int) (a b:List Int) (c:List Bool):=bt4 (aJ tt (aH T58) ([(0,⟨aE f57 0,I57 k a b c 0,.ret,Y57⟩)]) 100 f57 [.agg [.int .i64 k,.view none (.ints .i64 a) a.length 1 none,.view none (.ints .i64 b) b.length 1 none,.view none (.bools c) c.length 1 none]] []) (!bif !bet k 1 2 then true else !cT a c) (!!bet k 1 2) (↑b.length:Int) (P:=fun q0 q1 q2 q3=>q0 [(0,true)]=
  some ⟨.c (.bool false),[],(rp6 (!bet k 1 2) ((!bet k 1 2)&&true)),[]⟩∧q0 [(0,false),(0,true)]=
  some ⟨.c (.bool false),[],(rp5 q2 (decide (a.length≤274877906944)&&(!!bet k 1 2&&(rp5 (bif !bet k 1 2 then true else !cT a c) true)))),[]⟩∧q0 [(0,false),(0,false),(0,true)]=
  some ⟨.c (.bool false),[],(rp5 q2 (decide (a.length≤274877906944)&&(!!bet k 1 2&&(rp4 q1 ((bif bif !bet k 1 2 then true else !cT a c then true else q3 !=8)&&true))))),[]⟩∧q0 [(0,false),(0,false),(0,false)]=
  some ⟨.c (.bool false),[],(rp5 q2 (decide (a.length≤274877906944)&&(!!bet k 1 2&&(rp4 q1 ((!bif bif !bet k 1 2 then true else !cT a c then true else q3 !=8)&&true))))),[I57 k a b c 0=I57 k a b c 0]⟩) ⟨by kernel_rfl,by kernel_rfl,by kernel_rfl,by kernel_rfl⟩
def YW (k:Int) (a b:List Int) (c:List Bool):=(S0 k a b c).2.2.2
noncomputable abbrev f59:=Tryz.f112
noncomputable def I59 (k:Int) (a b:List Int) (c:List Bool) (v:Int):St:=aS f59.ntmps [(1,.c (.ptr 0 0 0 0)),(5,.c (.int .i64 v))] [.live (.cells [.int .i64 k,.view none (.ints .i64 a) a.length 1 none,.view none (.ints .i64 b) b.length 1 none,.view none (.bools c) c.length 1 none])]
noncomputable def X59:St:=aS f59.ntmps [] []
noncomputable def Y59 (n:Nat) (d:List Int) (v:Int) (ok:Bool):St:=aS f59.ntmps [(2,.c (.sl 0 0 n 1 none)),(3,.c (.int .i64 v)),(4,.c (.bool ok))] [.live (.ints .i64 d)]
def ET (k:Int) (a b:List Int) (c:List Bool) (v:Int):=bt3 (aM tt (aH T58) ([]) 0 100 (aC 0 (aB f59)) (I59 k a b c v)) (bJ b c v) (aK 0 (aE f59 0) (aG f59 0)) (P:=fun q0 q1 q2=>q2 (q0 [(0,true),(0,true)])=
  some (.ret,(decide (v>0)&&(decide (c.length≤274877906944)&&(decide (b.length=c.length)&&(decide (c.length=q1.length)&&(cbB k q1&&(decide (c.length≤274877906944)&&(decide (b.length=c.length)&&(decide (c.length=q1.length)&&(bet k 1 2&&(decide (a.length=8)&&(aD a&&((decide (q1.length=8))&&true)))))))))))),[],Y59 ((rdX k a (flg q1)).length) (rdX k a (flg q1)) (v) (rdB k a (flg q1)))∧q2 (q0 [(0,true),(0,false)])=
  some (.normal,(decide (v>0)&&(decide (c.length≤274877906944)&&(decide (b.length=c.length)&&(decide (c.length=q1.length)&&((!cbB k q1)&&true))))),[],I59 k a b c (IntKind.i64.wrap (v-1)))∧q2 (q0 [(0,false)])=
  some (.exit 0,((!decide (v>0))&&true),[],X59)) ⟨by kernel_rfl,by kernel_rfl,by kernel_rfl⟩
def a2S (k:Int) (a b:List Int) (c:List Bool) (v:Int):=(ET k a b c v).1
def a2T (k:Int) (a b:List Int) (c:List Bool) (v:Int):=(ET k a b c v).2.1
def a2U (k:Int) (a b:List Int) (c:List Bool) (v:Int):=(ET k a b c v).2.2
theorem a6G (k:Int) (a b:List Int) (c:List Bool):aJ tt (aH T58) ([(0,⟨aE f59 0,I59 k a b c (mxL b),.normal,X59⟩)]) 100 f59 [.agg [.int .i64 k,.view none (.ints .i64 a) a.length 1 none,.view none (.ints .i64 b) b.length 1 none,.view none (.bools c) c.length 1 none]] [] []=
  some ⟨.tup [.c (.sl 0 0 0 1 none),.c (.int .i64 0),.c (.bool false)],[.live (.ints .i64 [])],((decide (b.length≤274877906944))&&true),[I59 k a b c (mxL b)=I59 k a b c (mxL b)]⟩:=by kernel_rfl
theorem YX (k:Int) (a b:List Int) (c:List Bool) (n:Nat) (d:List Int) (v:Int) (ok:Bool):aJ tt (aH T58) ([(0,⟨aE f59 0,I59 k a b c (mxL b),.ret,Y59 n d v ok⟩)]) 100 f59 [.agg [.int .i64 k,.view none (.ints .i64 a) a.length 1 none,.view none (.ints .i64 b) b.length 1 none,.view none (.bools c) c.length 1 none]] [] []=
  some ⟨.tup [.c (.sl 0 0 n 1 none),.c (.int .i64 v),.c (.bool ok)],[.live (.ints .i64 d)],((decide (b.length≤274877906944))&&true),[I59 k a b c (mxL b)=I59 k a b c (mxL b)]⟩:=by kernel_rfl
noncomputable abbrev f56:=Tryz.f109
noncomputable def I56 (k:Int) (a b:List Int) (c:List Bool) (on:Bool) (kd:Int) (d:List Int) (vs:Int) (n1 n2 n3:Nat) (a' b':List Int) (c':List Bool) (i:Int):St:=aS f56.ntmps [(1,.c (.ptr 0 0 0 0)),(2,.c (.ptr 1 0 0 0)),(3,.c (.ptr 2 0 0 0)),(4,.c (.int .i64 i))]
 [.live (.cells [.int .i64 k,.view none (.ints .i64 a) a.length 1 none,.view none (.ints .i64 b) b.length 1 none,.view none (.bools c) c.length 1 none,.bool on,.int .i64 kd,.view none (.ints .i64 d) d.length 1 none,.int .i64 vs]),.live (.cells [.int .i64 0,.nils,.nils,.nils]),.live (.cells [.int .i64 k,.sl 3 0 n1 1 none,.sl 4 0 n2 1 none,.sl 5 0 n3 1 none]),.live (.ints .i64 a'),.live (.ints .i64 b'),.live (.bools c')]
noncomputable def X56 (k:Int) (n1 n2 n3:Nat) (a' b':List Int) (c':List Bool):St:=aS f56.ntmps [(2,.c (.ptr 0 0 0 0)),(3,.c (.ptr 1 0 0 0))]
 [.live (.cells [.int .i64 0,.nils,.nils,.nils]),.live (.cells [.int .i64 k,.sl 2 0 n1 1 none,.sl 3 0 n2 1 none,.sl 4 0 n3 1 none]),.live (.ints .i64 a'),.live (.ints .i64 b'),.live (.bools c')]
theorem a2F (k:Int) (a b:List Int) (c:List Bool) (on:Bool) (kd:Int) (d:List Int) (vs:Int) (n1 n2 n3:Nat) (a' b':List Int) (c':List Bool) (i:Int):aK 0 (aE f56 0) (aG f56 0) (aM tt (aH T58) ([]) 0 100 (aC 0 (aB f56)) (I56 k a b c on kd d vs n1 n2 n3 a' b' c' i) [(0,true),(0,true),(0,true)])=
  some (.normal,(decide (i<8)&&(rp4 (on) (decide (0≤i)&&(decide (i<(↑n2:Int))&&((on)&&(decide (i.toNat<b'.length)&&(rp3 (on) ((bif on then b'.getD i.toNat 0==vs else false)&&(decide (n1=a'.length)&&(decide (n2=b'.length)&&(decide (n3=c'.length)&&((decide (a'.length≤274877906944)&&(decide (b'.length≤274877906944)&&(decide (c'.length≤274877906944)&&(decide (0≤i)&&(decide (i<(↑a'.length:Int))&&(decide (i.toNat<a'.length)&&(decide (0≤i)&&(decide (i<(↑b'.length:Int))&&(decide (i.toNat<b'.length)&&(decide (0≤i)&&(decide (i<(↑c'.length:Int))&&(decide (i.toNat<c'.length)&&true))))))))))))&&true)))))))))))),[],I56 k a b c on kd d vs (a'.length) (b'.length) (c'.length) (a'.set i.toNat 0) (b'.set i.toNat 0) (c'.set i.toNat false) (IntKind.i64.wrap (i+1))):=by kernel_rfl
theorem a2G (k:Int) (a b:List Int) (c:List Bool) (on:Bool) (kd:Int) (d:List Int) (vs:Int) (n1 n2 n3:Nat) (a' b':List Int) (c':List Bool) (i:Int):aK 0 (aE f56 0) (aG f56 0) (aM tt (aH T58) ([]) 0 100 (aC 0 (aB f56)) (I56 k a b c on kd d vs n1 n2 n3 a' b' c' i) [(0,true),(0,true),(0,false)])=
  some (.normal,(decide (i<8)&&(rp4 (on) (decide (0≤i)&&(decide (i<(↑n2:Int))&&((on)&&(decide (i.toNat<b'.length)&&(rp3 (on) ((!bif on then b'.getD i.toNat 0==vs else false)&&true)))))))),[],I56 k a b c on kd d vs (n1) (n2) (n3) (a') (b') (c') (IntKind.i64.wrap (i+1))):=by kernel_rfl
theorem a2H (k:Int) (a b:List Int) (c:List Bool) (on:Bool) (kd:Int) (d:List Int) (vs:Int) (n1 n2 n3:Nat) (a' b':List Int) (c':List Bool) (i:Int):aK 0 (aE f56 0) (aG f56 0) (aM tt (aH T58) ([]) 0 100 (aC 0 (aB f56)) (I56 k a b c on kd d vs n1 n2 n3 a' b' c' i) [(0,true),(0,false)])=
  some (.normal,(decide (i<8)&&(rp9 (!on) true)),[],I56 k a b c on kd d vs (n1) (n2) (n3) (a') (b') (c') (IntKind.i64.wrap (i+1))):=by kernel_rfl
theorem a2I (k:Int) (a b:List Int) (c:List Bool) (on:Bool) (kd:Int) (d:List Int) (vs:Int) (n1 n2 n3:Nat) (a' b':List Int) (c':List Bool) (i:Int):aK 0 (aE f56 0) (aG f56 0) (aM tt (aH T58) ([]) 0 100 (aC 0 (aB f56)) (I56 k a b c on kd d vs n1 n2 n3 a' b' c' i) [(0,false)])=
  some (.exit 0,((!decide (i<8))&&true),[],X56 (k) (n1) (n2) (n3) (a') (b') (c')):=by kernel_rfl
theorem a6A (k:Int) (a b:List Int) (c:List Bool) (on:Bool) (kd:Int) (d:List Int) (vs:Int) (a' b':List Int) (c':List Bool):aJ tt (aH T58) ([(0,⟨aE f56 0,I56 k a b c on kd d vs a.length b.length c.length a b c 0,.normal,X56 k a'.length b'.length c'.length a' b' c'⟩)]) 100 f56 [.agg [.int .i64 k,.view none (.ints .i64 a) a.length 1 none,.view none (.ints .i64 b) b.length 1 none,.view none (.bools c) c.length 1 none,.bool on,.int .i64 kd,.view none (.ints .i64 d) d.length 1 none,.int .i64 vs]] [] []=
  some ⟨.agg [.int .i64 k,.sl 0 0 a'.length 1 none,.sl 1 0 b'.length 1 none,.sl 2 0 c'.length 1 none],[.live (.ints .i64 a'),.live (.ints .i64 b'),.live (.bools c')],(decide (a.length≤274877906944)&&(decide (b.length≤274877906944)&&((decide (c.length≤274877906944))&&true))),[I56 k a b c on kd d vs a.length b.length c.length a b c 0=I56 k a b c on kd d vs a.length b.length c.length a b c 0]⟩:=by kernel_rfl
end
section
def In (x:Int) (v:List Int):Prop:= ∃i,i<v.length∧v.getD i 0=x
theorem oA {v:List Int} {j:Nat} (h1:1≤j) (h2:j<v.length) (i:Nat):(swp v j).getD i 0=if i=j then v.getD (j-1) 0 else if i=j-1 then v.getD j 0 else v.getD i 0:=by
 unfold swp
 rw[bC,bC]
 by_cases e1:i=j
 ·subst e1;rw[if_neg (by omega),if_pos ⟨rfl,h2⟩,if_pos rfl]
 ·by_cases e2:i=j-1
  ·subst e2;rw[if_pos ⟨rfl,by rw[List.length_set];omega⟩,if_neg e1,if_pos rfl]
  ·rw[if_neg (by omega),if_neg (by omega),if_neg e1,if_neg e2]
theorem X3 {v:List Int} {j:Nat} (h1:1≤j) (h2:j<v.length) (x:Int):In x (swp v j)↔In x v:=by
 constructor
 ·rintro⟨i,hi,e⟩
  rw[jE]at hi
  rw[oA h1 h2]at e
  split at e
  ·exact⟨j-1,by omega,e⟩
  ·split at e
   ·exact⟨j,h2,e⟩
   ·exact⟨i,hi,e⟩
 ·rintro⟨i,hi,e⟩
  by_cases e1:i=j
  ·exact⟨j-1,by rw[jE];omega,by rw[oA h1 h2,if_neg (by omega),if_pos rfl,←e1];exact e⟩
  ·by_cases e2:i=j-1
   ·exact⟨j,by rw[jE];omega,by rw[oA h1 h2,if_pos rfl,←e2];exact e⟩
   ·exact⟨i,by rw[jE];omega,by rw[oA h1 h2,if_neg e1,if_neg e2];exact e⟩
def s6 (n:Nat) (u v:List Int):Prop:=u.length=v.length∧(∀x,In x u↔In x v)∧ ∀i,n≤i→u.getD i 0=v.getD i 0
theorem P8 {v:List Int} {n:Nat} (hn:n<v.length) (hs: ∀i k,i<k→k<n→v.getD i 0≤v.getD k 0):s6 (n+1) (kA n v) v∧ ∀i k,i<k→k<n+1→(kA n v).getD i 0≤(kA n v).getD k 0:=by
 have key:=gU (step:=oX n) (fun t u=>t≤n∧s6 (n+1) u v∧ ∀i k,i<k→k<n+1→k≠n-t→u.getD i 0≤u.getD k 0) (fun u=>s6 (n+1) u v∧ ∀i k,i<k→k<n+1→u.getD i 0≤u.getD k 0) n 0 v
  ⟨by omega,⟨rfl,fun _=>Iff.rfl,fun _ _=>rfl⟩,fun i k h1 h2 h3=>hs i k h1 (by omega)⟩ (fun t u _ ht hu=>by
  obtain⟨u1,⟨u2,u3,u4⟩,u5⟩:=hu
  have htn:t<n:=by omega
  unfold oX
  cases hd:decide (u.getD (n-t) 0<u.getD (n-t-1) 0)with
  |true=>
   have hlt:u.getD (n-t) 0<u.getD (n-t-1) 0:=by simpa using hd
   rw[cond_true]
   refine⟨fun b' e=> ?_,fun c e=>(by cases e)⟩
   injection e with e;subst e
   have g:=fun i=>oA (v:=u) (j:=n-t) (by omega) (by omega) i
   refine⟨by omega,⟨by rw[jE];exact u2,fun x=>(X3 (by omega) (by omega) x).trans (u3 x),fun i hi=>by rw[g,if_neg (by omega),if_neg (by omega)];exact u4 i hi⟩,fun i k h1 h2 h3=> ?_⟩
   rw[g i,g k]
   by_cases k1:k=n-t
   ·subst k1
    rw[if_pos rfl,if_neg (by omega)]
    by_cases i1:i=n-t-1
    ·rw[if_pos i1];omega
    ·rw[if_neg i1];exact u5 i (n-t-1) (by omega) (by omega) (by omega)
   ·rw[if_neg k1,if_neg (show k≠n-t-1 by omega)]
    by_cases i1:i=n-t
    ·rw[if_pos i1];exact u5 (n-t-1) k (by omega) h2 k1
    ·rw[if_neg i1]
     by_cases i2:i=n-t-1
     ·rw[if_pos i2];exact u5 (n-t) k (by omega) h2 k1
     ·rw[if_neg i2];exact u5 i k h1 h2 k1
  |false=>
   have hge:u.getD (n-t-1) 0≤u.getD (n-t) 0:=by have:=of_decide_eq_false hd;omega
   rw[cond_false]
   refine⟨fun b' e=>(by cases e),fun c e=> ?_⟩
   injection e with e;subst e
   refine⟨⟨u2,u3,u4⟩,fun i k h1 h2=> ?_⟩
   by_cases k1:k=n-t
   ·subst k1
    by_cases i1:i=n-t-1
    ·subst i1;exact hge
    ·exact Int.le_trans (u5 i (n-t-1) (by omega) (by omega) (by omega)) hge
   ·exact u5 i k h1 h2 k1)
 unfold kA
 revert key
 cases cG (oX n) n 0 v with
 |inl u=>
  rintro⟨u1,u2,u5⟩
  dsimp only
  exact⟨u2,fun i k h1 h2=>u5 i k h1 h2 (by omega)⟩
 |inr u=>exact fun h=>h
theorem s6.trans {n m:Nat} {u v w:List Int} (a:s6 n u v) (b:s6 m v w) (h:m≤n):s6 n u w:=
 ⟨a.1.trans b.1,fun x=>(a.2.1 x).trans (b.2.1 x),fun i hi=>(a.2.2 i hi).trans (b.2.2 i (by omega))⟩
theorem N8 (v:List Int):(cW v).length=v.length∧(∀x,In x (cW v)↔In x v)∧ ∀i k,i<k→k<v.length→(cW v).getD i 0≤(cW v).getD k 0:=by
 have key:=aY (step:=fun t v=>kA (t+1) v) (fun t u=>(u.length=v.length∧(∀x,In x u↔In x v))∧ ∀i k,i<k→k<t+1→u.getD i 0≤u.getD k 0) (v.length-1) v ⟨⟨rfl,fun _=>Iff.rfl⟩,fun i k h1 h2=>by omega⟩ fun t u ht h=>by
  obtain⟨⟨h1,h2⟩,h3⟩:=h
  obtain⟨a,b⟩:=P8 (v:=u) (n:=t+1) (by omega) h3
  exact⟨⟨a.1.trans h1,fun x=>(a.2.1 x).trans (h2 x)⟩,b⟩
 refine⟨key.1.1,key.1.2,fun i k h1 h2=>key.2 i k h1 (by omega)⟩
theorem MV (v:List Int):(jA v).length=v.length∧ ∀i,i<v.length→(jA v).getD i 0=v.getD (v.length-1-i) 0:=by
 have key:=aY (step:=zJ v.length) (fun t u=>u.length=v.length∧ ∀i,i<v.length→u.getD i 0=if i<t∨v.length-1-t<i then v.getD (v.length-1-i) 0 else v.getD i 0) (v.length/2) v
  ⟨rfl,fun i hi=>by rw[if_neg (by omega)]⟩ fun t u ht h=>by
  obtain⟨h1,h2⟩:=h
  refine⟨by simp[zJ,h1],fun i hi=> ?_⟩
  unfold zJ
  rw[bC,bC,List.length_set]
  by_cases e1:v.length-1-t=i
  ·rw[if_pos ⟨e1,by omega⟩,if_pos (by omega),h2 t (by omega),if_neg (by omega)]
   congr 1;omega
  ·rw[if_neg (by omega)]
   by_cases e2:t=i
   ·subst e2
    rw[if_pos ⟨rfl,by omega⟩,if_pos (by omega),h2 _ (by omega),if_neg (by omega)]
   ·rw[if_neg (by omega),h2 i hi]
    by_cases e3:i<t∨v.length-1-t<i
    ·rw[if_pos e3,if_pos (by omega)]
    ·rw[if_neg e3,if_neg (by omega)]
 refine⟨key.1,fun i hi=> ?_⟩
 unfold jA
 rw[key.2 i hi]
 split
 ·rfl
 ·congr 1;omega
theorem AW {v:List Int}: ∀n,n≤v.length→(∀i k,i<k→k<v.length→v.getD k 0≤v.getD i 0)→(∀x,x∈eP v n↔ ∃i,i<n∧v.getD i 0=x)∧(eP v n).Pairwise (· > ·)
 |0,_,_=>⟨fun x=>by simp[eP],by simp[eP]⟩
 |n+1,hn,hs=>by
  obtain⟨h1,h2⟩:=AW n (by omega) hs
  simp only[eP]
  cases hb:Nat.beq n 0||v.getD n 0 !=v.getD (n-1) 0 with
  |true=>
   rw[cond_true]
   refine⟨fun x=> ?_, ?_⟩
   ·rw[List.mem_append,h1,List.mem_singleton]
    constructor
    ·rintro(⟨i,hi,e⟩|e)
     ·exact⟨i,by omega,e⟩
     ·exact⟨n,by omega,e.symm⟩
    ·rintro⟨i,hi,e⟩
     by_cases ei:i=n
     ·subst ei;exact .inr e.symm
     ·exact .inl ⟨i,by omega,e⟩
   ·rw[List.pairwise_append]
    refine⟨h2,by simp,fun x hx y hy=> ?_⟩
    rw[List.mem_singleton]at hy
    subst hy
    obtain⟨i,hi,e⟩:=(h1 x).1 hx
    rw[Bool.or_eq_true]at hb
    rcases hb with hb|hb
    ·have:=Nat.eq_of_beq_eq_true hb;omega
    ·have hne:v.getD n 0≠v.getD (n-1) 0:=by simpa using hb
     have l1:=hs (n-1) n (by omega) (by omega)
     by_cases ei:i=n-1
     ·subst ei;omega
     ·have l2:=hs i (n-1) (by omega) (by omega)
      omega
  |false=>
   rw[cond_false]
   rw[Bool.or_eq_false_iff]at hb
   have hn0:n≠0:=fun e=>by subst e;simp at hb
   have he:v.getD n 0=v.getD (n-1) 0:=by simpa using hb.2
   refine⟨fun x=> ?_,h2⟩
   rw[h1]
   constructor
   ·rintro⟨i,hi,e⟩;exact⟨i,by omega,e⟩
   ·rintro⟨i,hi,e⟩
    by_cases ei:i=n
    ·subst ei;exact⟨i-1,by omega,by rw[←he];exact e⟩
    ·exact⟨i,by omega,e⟩
theorem NH (b v:List Int): ∀x,In x (eK b v)↔ ∃i,i<v.length∧b.getD (v.getD i 0).toNat 0=x:=by
 have key:=aY (step:=jQ b v) (fun n o=>o.length=n∧ ∀i,i<n→o.getD i 0=b.getD (v.getD i 0).toNat 0) v.length [] ⟨rfl,fun i hi=>by omega⟩ fun n o hn h=>by
  refine⟨by simp[jQ,h.1],fun i hi=> ?_⟩
  unfold jQ
  by_cases e:i=n
  ·subst e;rw[show i=o.length from h.1.symm,gI]
  ·rw[fM (by omega)];exact h.2 i (by omega)
 intro x
 constructor
 ·rintro⟨i,hi,e⟩
  have hl:i<v.length:=by rw[←key.1];exact hi
  exact⟨i,hl,by rw[←key.2 i hl];exact e⟩
 ·rintro⟨i,hi,e⟩
  exact⟨i,by show i<(eK b v).length;unfold eK;rw[key.1];exact hi,by unfold eK;rw[key.2 i hi];exact e⟩
theorem gX (b:List Int) {c:List Bool} (hc:c.length=8):(∀x,x∈bO b c↔ ∃a:Nat,a<8∧c.getD a false=true∧b.getD a 0=x)∧(bO b c).Pairwise (· > ·):=by
 obtain⟨s1,s2,s3⟩:=N8 (eK b (flg c))
 obtain⟨r1,r2⟩:=MV (cW (eK b (flg c)))
 obtain⟨c1,c2⟩:=AW (v:=jA (cW (eK b (flg c)))) _ (Nat.le_refl _) (fun i k h1 h2=>by
  rw[r1]at h2
  rw[r2 i (by omega),r2 k h2]
  exact s3 _ _ (by omega) (by omega))
 refine⟨fun x=> ?_,c2⟩
 refine(c1 x).trans ?_
 have e:(∃i,i<(jA (cW (eK b (flg c)))).length∧(jA (cW (eK b (flg c)))).getD i 0=x)↔In x (cW (eK b (flg c))):=by
  constructor
  ·rintro⟨i,hi,e⟩
   rw[r1]at hi
   rw[r2 i hi]at e
   exact⟨_,by omega,e⟩
  ·rintro⟨i,hi,e⟩
   refine⟨(cW (eK b (flg c))).length-1-i,by rw[r1];omega, ?_⟩
   rw[r2 _ (by omega),show(cW (eK b (flg c))).length-1-((cW (eK b (flg c))).length-1-i)=i from by omega]
   exact e
 rw[e,s2,NH]
 constructor
 ·rintro⟨i,hi,e⟩
  obtain⟨a,h1,h2,h3⟩:=rP hc hi
  rw[h3,Int.toNat_natCast]at e
  exact⟨a,h1,h2,e⟩
 ·rintro⟨a,h1,h2,h3⟩
  obtain⟨i,hi,e⟩:=GB hc h1 h2
  exact⟨i,hi,by rw[e,Int.toNat_natCast];exact h3⟩
end
section
def shT (k:Int) (a b:List Int) (c:List Bool) (i:Nat):Bool:=bif c.getD i false then bet (b.getD i 0) 1 99&&cH k a (flg (bJ b c (b.getD i 0)))else !(a.getD i 0 !=0)&& !(b.getD i 0 !=0)
theorem l57 (k:Int) (a b:List Int) (c:List Bool) (hk:bet k 1 2=true) (ha:a.length=8) (hf:aD a=true) (hb:b.length=8) (hc:c.length=8):
  aP none Tryz.prog 0 (.block 0 (.loop (aC 0 (aB f57)))) (I57 k a b c 0) fun e t=>e=(bif cL (shT k a b c) 8 0 then .normal else .ret)∧t=bif cL (shT k a b c) 8 0 then X57 else Y57:=by
 refine aP.all (ro:=none) hT t58 bE 8 (shT k a b c) (fun i=>I57 k a b c i) X57 Y57 .ret (.inr rfl) (aE f57 0) (aG f57 0) (fun _=>[]) (fun _ _=>aL.nil) (fun i hi h=> ?_) (fun i hi h=> ?_)
  ⟨_,_,⟨_,_,a2P k a b c (8:Nat),by rfl,by simp⟩⟩
 ·unfold shT at h
  cases h1:c.getD i false with
  |false=>
   rw[h1,cond_false,Bool.and_eq_true,Bool.not_eq_true',Bool.not_eq_true']at h
   obtain⟨h2,h3⟩:=h
   have e:=a2L k a b c i
   rw[aF (by omega) (by omega),Int.toNat_natCast]at e
   refine⟨_,_,⟨_,_,e, ?_,by simp⟩⟩
   simp only[h1,h2,h3,bS,rpS]
   omega
  |true=>
   rw[h1,cond_true,Bool.and_eq_true]at h
   obtain⟨h2,h3⟩:=h
   have e:=a2O k a b c i
   rw[aF (by omega) (by omega),Int.toNat_natCast]at e
   refine⟨_,_,⟨_,_,e, ?_,by simp⟩⟩
   simp only[h1,h2,h3,hk,hf,bY,bS,rpS]
   omega
 ·unfold shT at h
  rw[if_neg (by intro h;cases h)]
  cases h1:c.getD i false with
  |false=>
   rw[h1,cond_false]at h
   cases h2:(a.getD i 0 !=0)with
   |true=>
    have e:=a2J k a b c i
    rw[Int.toNat_natCast]at e
    refine⟨_,_,⟨_,_,e, ?_,by simp⟩⟩
    simp only[h1,h2,bS,rpS]
    omega
   |false=>
    rw[h2,Bool.not_false,Bool.true_and,Bool.not_eq_false']at h
    have e:=a2K k a b c i
    rw[Int.toNat_natCast]at e
    refine⟨_,_,⟨_,_,e, ?_,by simp⟩⟩
    simp only[h1,h2,h,bS,rpS]
    omega
  |true=>
   rw[h1,cond_true]at h
   cases h2:bet (b.getD i 0) 1 99 with
   |false=>
    have e:=a2M k a b c i
    rw[Int.toNat_natCast]at e
    refine⟨_,_,⟨_,_,e, ?_,by simp⟩⟩
    simp only[h1,h2,bS,rpS]
    omega
   |true=>
    rw[h2,Bool.true_and]at h
    have e:=a2N k a b c i
    rw[Int.toNat_natCast]at e
    refine⟨_,_,⟨_,_,e, ?_,by simp⟩⟩
    simp only[h1,h2,h,hk,hf,bY,bS,rpS]
    omega
theorem uW {a b:List Int} {c:List Bool} (ha:a.length=8) (hb:b.length=8) (hc:c.length=8):d5 a b c=true:=f9.2 ⟨ha,hb,hc⟩
theorem F7 (k:Int) (a b:List Int) (c:List Bool) (hk:bet k 1 2=true) (ha:a.length=8) (hf:aD a=true) (hb:b.length=8) (hc:c.length=8):bU k a b c=cL (shT k a b c) 8 0:=by
 obtain⟨v1,v2⟩:=gX b hc
 unfold bU
 rw[hk,uW ha hb hc,Bool.true_and,Bool.true_and,Bool.eq_iff_iff,Bool.and_eq_true,cF,cF,List.all_eq_true]
 constructor
 ·rintro⟨h1,h2⟩ i _ hi
  have:=h1 i (by omega) hi
  unfold nX at this
  unfold shT
  cases hq:c.getD i false with
  |false=>rw[hq]at this;exact this
  |true=>
   rw[hq,cond_true,Bool.and_eq_true]at this
   rw[cond_true,this.2,Bool.true_and,←pC]
   exact h2 _ ((v1 _).2 ⟨i,by omega,hq,rfl⟩)
 ·intro h
  refine⟨fun i _ hi=> ?_,fun x hx=> ?_⟩
  ·have:=h i (by omega) hi
   unfold shT at this
   unfold nX
   cases hq:c.getD i false with
   |false=>rw[hq]at this;exact this
   |true=>
    rw[hq,cond_true,Bool.and_eq_true]at this
    rw[cond_true,this.1,Bool.and_true]
    exact aU hf i
  ·obtain⟨i,hi,hq,e⟩:=(v1 x).1 hx
   have:=h i (by omega) (by omega)
   unfold shT at this
   rw[hq,cond_true,Bool.and_eq_true,e,←pC]at this
   exact this.2
theorem C4 {k:Int} {a b:List Int} {c:List Bool} (h:bU k a b c=true):bet k 1 2=true∧cT a c=true∧(((b.length:Int)==8))=true:=by
 obtain⟨q1,q2,q3,q4,q5⟩:=fA h
 refine⟨q1, ?_, ?_⟩
 ·unfold cT;rw[q5,q2,q4];rfl
 ·rw[q3];rfl
def DE:aO:=fun args h=>
 match args,h with
 |[.agg [.int .i64 k,.view _ (.ints .i64 a) n1 1 _,.view _ (.ints .i64 b) n2 1 _,.view _ (.bools c) n3 1 _]],[]=>
  some (.c (.bool (bU k a b c)),[],[decide (a.length≤274877906944)])
 |_,_=>none
theorem m57:aT Tryz.prog 110 DE:=by
 intro args h res h' o hnorm he ho
 unfold DE at he
 split at he
 case h_2=>cases he
 rename_i k nl1 a n1 cap1 nl2 b n2 cap2 nl3 c n3 cap3
 simp only[Option.some.injEq,Prod.mk.injEq]at he
 obtain⟨rfl,rfl,rfl⟩:=he
 simp only[List.mem_cons,List.not_mem_nil,or_false,forall_eq_or_imp,forall_eq,decide_eq_true_eq]at ho
 have o1:=ho
 simp only[b8,AV.norm,bA,aI.norm,Con.size,List.cons.injEq,AV.c.injEq,AV.agg.injEq,aI.view.injEq,aN,true_and,and_true]at hnorm
 obtain⟨⟨rfl,rfl,rfl⟩,⟨rfl,rfl,rfl⟩,rfl,rfl,rfl⟩:=hnorm
 cases h1:bet k 1 2 with
 |false=>
  have hs:bU k a b c=false:=by unfold bU;rw[h1];rfl
  rw[hs]
  exact mo (fn:=f57) t58 (a6B k a b c []) (by simp only[h1,bS,rpS]) (hlc:=(fun cc hcc=>aL.nil))
 |true=>
  cases h2:cT a c with
  |false=>
   have hs:bU k a b c=false:=by
    cases h:bU k a b c with
    |false=>rfl
    |true=>rw[(C4 h).2.1]at h2;cases h2
   rw[hs]
   exact mo (fn:=f57) t58 (a6C k a b c []) (by simp only[h1,h2,o1,bS,rpS]) (hlc:=(fun cc hcc=>aL.nil))
  |true=>
   cases h3:((b.length:Int)==8)with
   |false=>
    have hs:bU k a b c=false:=by
     cases h:bU k a b c with
     |false=>rfl
     |true=>rw[(C4 h).2.2]at h3;cases h3
    rw[hs]
    exact mo (fn:=f57) t58 (a6D k a b c []) (by simp only[h1,h2,h3,bne,o1,bS,rpS]) (hlc:=(fun cc hcc=>aL.nil))
   |true=>
    have hb:b.length=8:=by have:=beq_iff_eq.1 h3;omega
    unfold cT at h2
    simp only[Bool.and_eq_true,rpS,beq_iff_eq]at h2
    obtain⟨hf,ha,hc⟩:=h2
    have ha:a.length=8:=by omega
    have hc:c.length=8:=by omega
    have g:=l57 k a b c h1 ha hf hb hc
    have hv:cT a c=true:=by unfold cT;rw[hf,ha,hc];rfl
    rw[F7 k a b c h1 ha hf hb hc]
    cases hx:cL (shT k a b c) 8 0 with
    |true=>
     rw[hx]at g
     exact mo (fn:=f57) t58 (a6E k a b c) (by simp only[h1,hv,h3,bne,o1,bS,rpS]) (hlc:=(fun cc hcc=>aL.cons (c:=cc) (by cases hcc;kernel_rfl) (by cases hcc;exact g) aL.nil))
    |false=>
     rw[hx]at g
     exact mo (fn:=f57) t58 (YW k a b c) (by simp only[h1,hv,h3,bne,o1,bS,rpS]) (hlc:=(fun cc hcc=>aL.cons (c:=cc) (by cases hcc;kernel_rfl) (by cases hcc;exact g) aL.nil))
def l2S (k:Int) (b:List Int) (c:List Bool) (t:Nat) (_:Unit):Unit⊕Int:=bif c8 k (flg (bJ b c (mxL b-t)))then .inr (mxL b-t)else .inl ()
def l2V (k:Int) (b:List Int) (c:List Bool):Option Int:=match cG (l2S k b c) (mxL b).toNat 0 ()with
 |.inl _=>none
 |.inr v=>some v
def l2D (k:Int) (a b:List Int) (c:List Bool):List Int:=match l2V k b c with|some x=>rdX k a (flg (bJ b c x))|none=>[]
def l2N (k:Int) (b:List Int) (c:List Bool):Int:=match l2V k b c with|some x=>x|none=>0
def l2B (k:Int) (a b:List Int) (c:List Bool):Bool:=match l2V k b c with|some x=>rdB k a (flg (bJ b c x))|none=>false
theorem mK (b:List Int):0≤mxL b:=aY (step:=mxS b) (fun _ n=>0≤n) b.length 0 (Int.le_refl 0) fun i n _ h=>by
 unfold mxS;split<;>omega
theorem l59 (k:Int) (a b:List Int) (c:List Bool) (hk:bet k 1 2=true) (ha:a.length=8) (hf:aD a=true) (hb:b.length=8) (hc:c.length=8) (hm:mxL b≤1000):
  aP none Tryz.prog 0 (.block 0 (.loop (aC 0 (aB f59)))) (I59 k a b c (mxL b)) fun e t=>match l2V k b c with
   |none=>e=.normal∧t=X59
   |some v=>e=.ret∧t=Y59 (rdX k a (flg (bJ b c v))).length (rdX k a (flg (bJ b c v))) v (rdB k a (flg (bJ b c v))):=by
 have h0:=mK b
 have hcb: ∀v,cbB k (bJ b c v)=c8 k (flg (bJ b c v)):=fun v=>by unfold cbB;rw[hk,bY,hc];rfl
 have key:=aP.countE (ro:=none) hT t58 bE (m:=0) (id:=0) (body:=aC 0 (aB f59)) (β:=Unit) (γ:=Int) (mxL b).toNat (fun _ _=>True) (fun t _=>I59 k a b c (mxL b-t)) (fun _=>X59)
  (fun v=>Y59 (rdX k a (flg (bJ b c v))).length (rdX k a (flg (bJ b c v))) v (rdB k a (flg (bJ b c v)))) .ret (.inr rfl) (l2S k b c) (aE f59 0) (aG f59 0) (fun _ _=>[]) (fun _ _ _ _=>aL.nil) (fun t u ht _=> ?_) (fun _ _=> ?_) () trivial
 ·have e0:mxL b-((0:Nat):Int)=mxL b:=by omega
  rw[e0]at key
  refine aP.mono key fun e t h=> ?_
  unfold l2V
  revert h
  cases cG (l2S k b c) (mxL b).toNat 0 ()<;>exact fun h=>h
 ·unfold l2S
  cases hq:c8 k (flg (bJ b c (mxL b-t)))with
  |true=>
   refine .inr ⟨mxL b-t,rfl, ?_⟩
   rw[if_neg (by intro h;cases h)]
   refine⟨_,_,⟨_,_,a2S k a b c (mxL b-t), ?_,by simp⟩⟩
   simp only[hcb,hq,hk,hf,bY,bS,rpS]
   omega
  |false=>
   refine .inl ⟨(),rfl,trivial, ?_⟩
   have e:=a2T k a b c (mxL b-t)
   rw[cQ (by omega) (by omega),show mxL b-(t:Int)-1=mxL b-((t+1:Nat):Int)from by omega]at e
   refine⟨_,_,⟨_,_,e, ?_,by simp⟩⟩
   simp only[hcb,hq,hk,hf,bY,bS,rpS]
   omega
 ·have e:=a2U k a b c (mxL b-((mxL b).toNat:Int))
  exact⟨_,_,⟨_,_,e,by simp;omega,by simp⟩⟩
def s9:aO:=fun args h=>
 match args,h with
 |[.agg [.int .i64 k,.view _ (.ints .i64 a) n1 1 _,.view _ (.ints .i64 b) n2 1 _,.view _ (.bools c) n3 1 _]],[]=>
  some (.tup [.c (.sl 0 0 (l2D k a b c).length 1 none),.c (.int .i64 (l2N k b c)),.c (.bool (l2B k a b c))],[.live (.ints .i64 (l2D k a b c))],[bet k 1 2,decide (a.length=8),aD a,decide (b.length=8),decide (c.length=8),decide (mxL b≤1000)])
 |_,_=>none
theorem m59:aT Tryz.prog 112 s9:=by
 intro args h res h' o hnorm he ho
 unfold s9 at he
 split at he
 case h_2=>cases he
 rename_i k nl1 a n1 cap1 nl2 b n2 cap2 nl3 c n3 cap3
 simp only[Option.some.injEq,Prod.mk.injEq]at he
 obtain⟨rfl,rfl,rfl⟩:=he
 simp only[List.mem_cons,List.not_mem_nil,or_false,forall_eq_or_imp,forall_eq,decide_eq_true_eq]at ho
 obtain⟨o1,o2,o3,o4,o5,o6⟩:=ho
 simp only[b8,AV.norm,bA,aI.norm,Con.size,List.cons.injEq,AV.c.injEq,AV.agg.injEq,aI.view.injEq,aN,true_and,and_true]at hnorm
 obtain⟨⟨rfl,rfl,rfl⟩,⟨rfl,rfl,rfl⟩,rfl,rfl,rfl⟩:=hnorm
 have g:=l59 k a b c o1 o2 o3 o4 o5 o6
 unfold l2D l2N l2B
 cases hv:l2V k b c with
 |none=>
  rw[hv]at g
  exact mo (fn:=f59) t58 (a6G k a b c) (by simp[o4]) (hlc:=(fun cc hcc=>aL.cons (c:=cc) (by cases hcc;kernel_rfl) (by cases hcc;exact g) aL.nil))
 |some v=>
  rw[hv]at g
  exact mo (fn:=f59) t58 (YX k a b c _ _ _ _) (by simp[o4]) (hlc:=(fun cc hcc=>aL.cons (c:=cc) (by cases hcc;kernel_rfl) (by cases hcc;exact g) aL.nil))
def elS (on:Bool) (vs:Int) (i:Nat) (s:List Int×List Int×List Bool):List Int×List Int×List Bool:=bif on&&(s.2.1.getD i 0==vs)then(s.1.set i 0,s.2.1.set i 0,s.2.2.set i false)else s
def elL (a b:List Int) (c:List Bool) (on:Bool) (vs:Int):List Int×List Int×List Bool:=bif on then bV a b c vs else(a,b,c)
theorem OX (a b:List Int) (c:List Bool) (on:Bool) (vs:Int) (hb:b.length=8):bI (elS on vs) 8 0 (a,b,c)=elL a b c on vs:=by
 unfold elL
 cases on with
 |true=>
  unfold bV
  rw[hb,cond_true]
  exact uS 8 0 _ fun i s _ _=>by unfold elS qR;rw[Bool.true_and]
 |false=>
  have:=aY (step:=elS false vs) (fun _ s=>s=(a,b,c)) 8 (a,b,c) rfl fun i s _ h=>by unfold elS;rw[Bool.false_and,cond_false];exact h
  rw[cond_false]
  exact this
theorem U8 (a b:List Int) (c:List Bool) (on:Bool) (vs:Int):(elL a b c on vs).1.length=a.length∧(elL a b c on vs).2.1.length=b.length∧(elL a b c on vs).2.2.length=c.length:=by
 unfold elL
 cases on with
 |true=>exact N2 a b c vs
 |false=>exact⟨rfl,rfl,rfl⟩
theorem l56 (k:Int) (a b:List Int) (c:List Bool) (on:Bool) (kd:Int) (d:List Int) (vs:Int) (ha:a.length=8) (hb:b.length=8) (hc:c.length=8):
  aP none Tryz.prog 0 (.block 0 (.loop (aC 0 (aB f56)))) (I56 k a b c on kd d vs a.length b.length c.length a b c 0) fun e t=>e=.normal∧t=X56 k (elL a b c on vs).1.length (elL a b c on vs).2.1.length (elL a b c on vs).2.2.length (elL a b c on vs).1 (elL a b c on vs).2.1 (elL a b c on vs).2.2:=by
 have key:=aP.count (ro:=none) hT t58 bE (m:=0) (id:=0) (body:=aC 0 (aB f56)) 8 (fun _ s=>s.1.length=8∧s.2.1.length=8∧s.2.2.length=8) (fun i s=>I56 k a b c on kd d vs s.1.length s.2.1.length s.2.2.length s.1 s.2.1 s.2.2 i) (fun s=>X56 k s.1.length s.2.1.length s.2.2.length s.1 s.2.1 s.2.2) (elS on vs) (aE f56 0) (aG f56 0)
  (fun _ _=>[]) (fun _ _ _ _=>aL.nil) (fun i s hi h=> ?_) (fun s h=>⟨_,_,⟨_,_,a2I k a b c on kd d vs s.1.length s.2.1.length s.2.2.length s.1 s.2.1 s.2.2 (8:Nat),by rfl,by simp⟩⟩) (a,b,c) ⟨ha,hb,hc⟩
 ·rw[OX a b c on vs hb]at key;exact key
 ·obtain⟨h1,h2,h3⟩:=h
  unfold elS
  cases ho:on with
  |false=>
   refine⟨⟨h1,h2,h3⟩, ?_⟩
   have e:=a2H k a b c false kd d vs s.1.length s.2.1.length s.2.2.length s.1 s.2.1 s.2.2 i
   rw[aF (by omega) (by omega)]at e
   refine⟨_,_,⟨_,_,e, ?_,by simp⟩⟩
   simp only[bS,rpS]
   omega
  |true=>
   cases hq:s.2.1.getD i 0==vs with
   |false=>
    refine⟨⟨h1,h2,h3⟩, ?_⟩
    have e:=a2G k a b c true kd d vs s.1.length s.2.1.length s.2.2.length s.1 s.2.1 s.2.2 i
    rw[aF (by omega) (by omega),Int.toNat_natCast]at e
    refine⟨_,_,⟨_,_,e, ?_,by simp⟩⟩
    simp only[hq,bS,rpS]
    omega
   |true=>
    refine⟨by simp[h1,h2,h3], ?_⟩
    have e:=a2F k a b c true kd d vs s.1.length s.2.1.length s.2.2.length s.1 s.2.1 s.2.2 i
    rw[aF (by omega) (by omega),Int.toNat_natCast]at e
    simp only[Bool.true_and,rpS,cond_true,List.length_set]
    refine⟨_,_,⟨_,_,e, ?_,by simp⟩⟩
    simp only[hq,bS,rpS]
    omega
def xL:aO:=fun args h=>
 match args,h with
 |[.agg [.int .i64 k,.view _ (.ints .i64 a) n1 1 _,.view _ (.ints .i64 b) n2 1 _,.view _ (.bools c) n3 1 _,.bool on,.int .i64 kd,.view _ (.ints .i64 d) n4 1 _,.int .i64 vs]],[]=>
  some (.agg [.int .i64 k,.sl 0 0 (elL a b c on vs).1.length 1 none,.sl 1 0 (elL a b c on vs).2.1.length 1 none,.sl 2 0 (elL a b c on vs).2.2.length 1 none],[.live (.ints .i64 (elL a b c on vs).1),.live (.ints .i64 (elL a b c on vs).2.1),.live (.bools (elL a b c on vs).2.2)],[decide (a.length=8),decide (b.length=8),decide (c.length=8)])
 |_,_=>none
theorem m56:aT Tryz.prog 109 xL:=by
 intro args h res h' o hnorm he ho
 unfold xL at he
 split at he
 case h_2=>cases he
 rename_i k nl1 a n1 cap1 nl2 b n2 cap2 nl3 c n3 cap3 on kd nl4 d n4 cap4 vs
 simp only[Option.some.injEq,Prod.mk.injEq]at he
 obtain⟨rfl,rfl,rfl⟩:=he
 simp only[List.mem_cons,List.not_mem_nil,or_false,forall_eq_or_imp,forall_eq,decide_eq_true_eq]at ho
 obtain⟨o1,o2,o3⟩:=ho
 simp only[b8,AV.norm,bA,aI.norm,Con.size,List.cons.injEq,AV.c.injEq,AV.agg.injEq,aI.view.injEq,aN,true_and,and_true]at hnorm
 obtain⟨⟨rfl,rfl,rfl⟩,⟨rfl,rfl,rfl⟩,⟨rfl,rfl,rfl⟩,rfl,rfl,rfl⟩:=hnorm
 exact mo (fn:=f56) t58 (a6A k a b c on kd d vs _ _ _) (by simp[o1,o2,o3]) (hlc:=(fun cc hcc=>aL.cons (c:=cc) (by cases hcc;kernel_rfl) (by cases hcc;exact l56 k a b c on kd d vs o1 o2 o3) aL.nil))
noncomputable def T59:List aZ:=[⟨110,[],nm DE⟩,⟨112,[],nm s9⟩,⟨109,[],nm xL⟩]++T58
theorem e59:aA Tryz.prog T59:=by
 refine aA.append ?_ e58
 intro e he
 simp only[List.mem_cons,List.not_mem_nil,or_false]at he
 rcases he with rfl|rfl|rfl
 ·exact m57.ok
 ·exact m59.ok
 ·exact m56.ok
theorem t59:bL Tryz.prog (aH T59):=aQ e59
end
section
theorem nL (b:List Int):(∀i,i<b.length→b.getD i 0≤mxL b)∧(mxL b=0∨ ∃i,i<b.length∧b.getD i 0=mxL b):=by
 have key:=aY (step:=mxS b) (fun n x=>0≤x∧(∀i,i<n→b.getD i 0≤x)∧(x=0∨ ∃i,i<n∧b.getD i 0=x)) b.length 0 ⟨Int.le_refl 0,fun i hi=>by omega,.inl rfl⟩ fun n x hn h=>by
  obtain⟨h0,h1,h2⟩:=h
  unfold mxS
  split
  ·rename_i hg
   refine⟨by omega,fun i hi=> ?_,.inr ⟨n,by omega,rfl⟩⟩
   by_cases e:i=n
   ·subst e;exact Int.le_refl _
   ·have:=h1 i (by omega);omega
  ·rename_i hg
   refine⟨h0,fun i hi=> ?_,h2.imp id fun⟨i,hi,e⟩=>⟨i,by omega,e⟩⟩
   by_cases e:i=n
   ·subst e;omega
   ·exact h1 i (by omega)
 exact key.2
structure Sok (k:Int) (a b:List Int) (c:List Bool):Prop where
 hk:bet k 1 2=true
 ha:a.length=8
 hb:b.length=8
 hc:c.length=8
 hf:aD a=true
 th: ∀i,i<8→c.getD i false=true→bet (b.getD i 0) 1 99=true∧cH k a (flg (bJ b c (b.getD i 0)))=true
 no: ∀i,i<8→c.getD i false=false→a.getD i 0=0∧b.getD i 0=0
theorem gG {k:Int} {a b:List Int} {c:List Bool}:bU k a b c=true↔Sok k a b c:=by
 constructor
 ·intro h
  obtain⟨q1,q2,q3,q4,q5⟩:=fA h
  rw[F7 k a b c q1 q2 q5 q3 q4,cF]at h
  refine⟨q1,q2,q3,q4,q5,fun i hi hc=> ?_,fun i hi hc=> ?_⟩
  ·have:=h i (by omega) (by omega)
   unfold shT at this
   rw[hc,cond_true,Bool.and_eq_true]at this
   exact this
  ·have:=h i (by omega) (by omega)
   unfold shT at this
   rw[hc,cond_false,Bool.and_eq_true]at this
   simpa using this
 ·rintro⟨q1,q2,q3,q4,q5,th,no⟩
  rw[F7 k a b c q1 q2 q5 q3 q4,cF]
  intro i _ hi
  unfold shT
  cases hc:c.getD i false with
  |true=>rw[cond_true,(th i (by omega) hc).1,(th i (by omega) hc).2];rfl
  |false=>rw[cond_false,(no i (by omega) hc).1,(no i (by omega) hc).2];rfl
variable {k : Int} {a b : List Int} {c : List Bool}
theorem Sok.bnd (h:Sok k a b c) {i:Nat} (hi:i<8):0≤b.getD i 0∧b.getD i 0≤99:=by
 cases hc:c.getD i false with
 |true=>have:=bQ.1 (h.th i hi hc).1;omega
 |false=>have:=(h.no i hi hc).2;omega
theorem Sok.mx (h:Sok k a b c):0≤mxL b∧mxL b≤99:=by
 refine⟨mK b, ?_⟩
 rcases(nL b).2 with e|⟨i,hi,e⟩
 ·omega
 ·have:=h.bnd (i:=i) (by have:=h.hb;omega);omega
theorem Sok.vers (h:Sok k a b c) {x:Int} (hx:x∈bO b c):1≤x∧x≤mxL b∧cH k a (flg (bJ b c x))=true:=by
 obtain⟨i,hi,hc,e⟩:=((gX b h.hc).1 x).1 hx
 obtain⟨t1,t2⟩:=h.th i hi hc
 have:=bQ.1 t1
 have:=(nL b).1 i (by have:=h.hb;omega)
 subst e
 exact⟨by omega,by omega,t2⟩
theorem Sok.mx_in (h:Sok k a b c) (h0:0<mxL b):mxL b∈bO b c:=by
 rcases(nL b).2 with e|⟨i,hi,e⟩
 ·omega
 ·have hi8:i<8:=by have:=h.hb;omega
  refine((gX b h.hc).1 _).2 ⟨i,hi8, ?_,e⟩
  cases hc:c.getD i false with
  |true=>rfl
  |false=>have:=(h.no i hi8 hc).2;omega
theorem Sok.top (h:Sok k a b c):iH b c=mxL b:=by
 obtain⟨v1,v2⟩:=gX b h.hc
 unfold iH
 cases hv:bO b c with
 |nil=>
  rw[List.getD_nil]
  have:=h.mx
  by_cases h0:0<mxL b
  ·have:=h.mx_in h0;rw[hv]at this;simp at this
  ·omega
 |cons x r=>
  rw[List.getD_cons_zero]
  have hx:=h.vers (x:=x) (by rw[hv];simp)
  have hm:=h.mx_in (by omega)
  rw[hv]at hm v2
  rw[List.mem_cons]at hm
  rcases hm with e|e
  ·exact e.symm
  ·have:=(List.pairwise_cons.1 v2).1 _ e
   omega
def r9 (b:List Int) (c:List Bool) (i:Nat):Bool:=bif c.getD i false then !(b.getD i 0 !=mxL b)else true
theorem Sok.one (h:Sok k a b c):cL (r9 b c) 8 0=true↔(bO b c).length≤1:=by
 obtain⟨v1,v2⟩:=gX b h.hc
 rw[cF]
 constructor
 ·intro ho
  have hall: ∀x∈bO b c,x=mxL b:=fun x hx=>by
   obtain⟨i,hi,hc,e⟩:=(v1 x).1 hx
   have:=ho i (by omega) (by omega)
   unfold r9 at this
   rw[hc,cond_true,e]at this
   simpa using this
  cases hv:bO b c with
  |nil=>simp
  |cons x r=>
   cases r with
   |nil=>simp
   |cons y r=>
    rw[hv]at v2 hall
    have:=(List.pairwise_cons.1 v2).1 y (by simp)
    have e1:=hall x (by simp)
    have e2:=hall y (by simp)
    omega
 ·intro hl i _ hi
  unfold r9
  cases hc:c.getD i false with
  |false=>rfl
  |true=>
   rw[cond_true]
   have hin:=(v1 (b.getD i 0)).2 ⟨i,by omega,hc,rfl⟩
   have hx:=h.vers hin
   have hm:=h.mx_in (by omega)
   have:b.getD i 0=mxL b:=by
    revert hin hm hl
    cases bO b c with
    |nil=>simp
    |cons x r=>
     cases r with
     |nil=>simp only[List.mem_singleton];intro _ e1 e2;rw[e1,e2]
     |cons y r=>simp
   rw[this];simp
theorem LZ {c:List Bool} (h: ∀i,i<c.length→c.getD i false=false):flg c=[]:=by
 cases hf:flg c with
 |nil=>rfl
 |cons x r=>
  have:x∈flg c:=by rw[hf];simp
  obtain⟨a,h1,h2,h3,-⟩:=(kW c c.length 0 x).1 this
  rw[h a (by omega)]at h3;cases h3
theorem HB (k:Int):c8 k []=false:=rfl
theorem AN (h:Sok k a b c) {x:Int} (hb:c8 k (flg (bJ b c x))=true):x∈bO b c:=by
 cases hv:decide (x∈bO b c)with
 |true=>exact of_decide_eq_true hv
 |false=>
  have hn:=of_decide_eq_false hv
  have:flg (bJ b c x)=[]:=LZ fun i hi=>by
   rw[bY]at hi
   rw[fY b c x i hi]
   cases hc:c.getD i false with
   |false=>rfl
   |true=>
    cases e:(b.getD i 0 !=x)with
    |true=>rfl
    |false=>exact absurd (((gX b h.hc).1 x).2 ⟨i,by rw[←h.hc];exact hi,hc,by simpa using e⟩) hn
  rw[this,HB]at hb;cases hb
theorem Sok.rdB (h:Sok k a b c) {x:Int} (hx:x∈bO b c):rdB k a (ofL b c x)=c8 k (flg (bJ b c x)):=by
 rw[Am.rdB,pC,(h.vers hx).2.2,Bool.and_true]
theorem wI {p:Int→Bool}: ∀ {l:List Int},l.Pairwise (· > ·)→ ∀ {x:Int},l.find? p=some x→x∈l∧p x=true∧ ∀y∈l,y>x→p y=false
 |[],_,x,h=>by simp at h
 |z::r,hp,x,h=>by
  rw[List.pairwise_cons]at hp
  rw[List.find?_cons]at h
  cases hz:p z with
  |true=>
   rw[hz]at h
   injection h with h
   subst h
   refine⟨by simp,hz,fun y hy hg=> ?_⟩
   rcases List.mem_cons.1 hy with e|e
   ·omega
   ·have:=hp.1 y e;omega
  |false=>
   rw[hz]at h
   obtain⟨h1,h2,h3⟩:=wI hp.2 h
   refine⟨by simp[h1],h2,fun y hy hg=> ?_⟩
   rcases List.mem_cons.1 hy with e|e
   ·rw[e];exact hz
   ·exact h3 y e hg
theorem B9: ∀(f i:Nat),match cG (l2S k b c) f i ()with
  |.inl _=> ∀t,i≤t→t<i+f→c8 k (flg (bJ b c (mxL b-t)))=false
  |.inr v=> ∃t,i≤t∧t<i+f∧v=mxL b-(t:Int)∧c8 k (flg (bJ b c v))=true∧ ∀u,i≤u→u<t→c8 k (flg (bJ b c (mxL b-u)))=false
 |0,i=>by simp only[cG];intro t h1 h2;omega
 |f+1,i=>by
  have ih:=B9 f (i+1)
  simp only[cG]
  unfold l2S at ih⊢
  cases hq:c8 k (flg (bJ b c (mxL b-(i:Int))))with
  |true=>exact⟨i,by omega,by omega,rfl,hq,fun u h1 h2=>by omega⟩
  |false=>
   simp only[cond_false]
   revert ih
   split
   ·intro ih t h1 h2
    by_cases e:t=i
    ·subst e;exact hq
    ·exact ih t (by omega) (by omega)
   ·rename_i v he
    rintro⟨t,h1,h2,h3,h4,h5⟩
    refine⟨t,by omega,by omega,h3,h4,fun u u1 u2=> ?_⟩
    by_cases e:u=i
    ·subst e;exact hq
    ·exact h5 u (by omega) u2
theorem Sok.read (h:Sok k a b c):l2V k b c=rdV k a b c:=by
 obtain⟨v1,v2⟩:=gX b h.hc
 have sp:=B9 (k:=k) (b:=b) (c:=c) (mxL b).toNat 0
 have h0:=h.mx
 unfold l2V rdV
 cases hf:(bO b c).find? (fun x=>Am.rdB k a (ofL b c x))with
 |none=>
  rw[List.find?_eq_none]at hf
  revert sp
  cases cG (l2S k b c) (mxL b).toNat 0 ()with
  |inl _=>exact fun _=>rfl
  |inr v=>
   rintro⟨t,h1,h2,h3,h4,h5⟩
   have hv:=AN h h4
   have:=hf v hv
   rw[h.rdB hv,h4]at this
   simp at this
 |some x=>
  obtain⟨f1,f2,f3⟩:=wI v2 hf
  rw[h.rdB f1]at f2
  have hx:=h.vers f1
  revert sp
  cases cG (l2S k b c) (mxL b).toNat 0 ()with
  |inl _=>
   intro sp
   dsimp only at sp
   have:=sp (mxL b-x).toNat (by omega) (by omega)
   rw[show mxL b-((mxL b-x).toNat:Int)=x from by omega,f2]at this
   cases this
  |inr v=>
   rintro⟨t,h1,h2,h3,h4,h5⟩
   dsimp only
   have hv:=AN h h4
   by_cases e:v=x
   ·rw[e]
   ·by_cases hlt:v>x
    ·have:=f3 v hv hlt
     rw[h.rdB hv,h4]at this;cases this
    ·have:=h5 (mxL b-x).toNat (by omega) (by omega)
     rw[show mxL b-((mxL b-x).toNat:Int)=x from by omega,f2]at this
     cases this
theorem Sok.rd (h:Sok k a b c):l2D k a b c=rdD k a b c∧l2N k b c=rdN k a b c∧l2B k a b c=rdS k a b c:=by
 unfold l2D l2N l2B rdD rdN rdS
 rw[h.read]
 cases hv:rdV k a b c with
 |none=>exact⟨rfl,rfl,rfl⟩
 |some x=>
  dsimp only
  rw[←pC]
  refine⟨rfl,rfl, ?_⟩
  unfold rdV at hv
  have:=List.find?_some hv
  exact this
theorem hP {k x:Int} {d:List Int} (hk:bet k 1 2=true) (hx:bet x 0 7=true):dL (bH k x) d=dS k d x:=by
 refine vH (B0 _ _) (k6 _ _ _) ?_
 rw[zY,i8,kH hk hx]
 simp only[eB,dz]
 grind
theorem sR {k:Int} {d:List Int} (hk:bet k 1 2=true):cdL k d=mC k d:=by
 unfold cdL mC
 rw[hP hk rfl,hP hk rfl,hP hk rfl,hP hk rfl,hP hk rfl,hP hk rfl,hP hk rfl,hP hk rfl]
theorem rO {kd:Int} {d:List Int} (hd:bG d 4=true):lC kd d=mC kd d:=by
 unfold lC
 rw[hd]
 rfl
end
end Go.Proofs.YtdnfojanjejdgaaGreat.Am
