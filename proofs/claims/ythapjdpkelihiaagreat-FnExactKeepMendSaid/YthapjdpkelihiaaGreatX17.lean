/- DERIVED. Part 17 of the proof: C57, C58, C59, C60, C61, C62, C63, C64, Am33, C65, C66, P10, P11, C67. No statement of the program is proved here. -/
import Derived.Test.YthapjdpkelihiaaGreatX16
set_option linter.unusedSimpArgs false
set_option linter.unusedVariables false
set_option linter.unusedSectionVars false
namespace Go.Proofs.YthapjdpkelihiaaGreat.Am
section
theorem mI {a b:List Int} {c:List Bool} {vs:Int} (ha:a.length=8) (hb:b.length=8) (hc:c.length=8) {i:Nat} (hi:i<8):
  (rsA a b c vs).getD i 0=(if b.getD i 0=vs then 0 else a.getD i 0)∧(rsB a b c vs).getD i 0=(if b.getD i 0=vs then 0 else b.getD i 0)∧(rsC a b c vs).getD i false=(if b.getD i 0=vs then false else c.getD i false):=by
 have gB: ∀(l:List Bool) (a b:Nat) (x:Bool),(l.set a x).getD b false=if a=b∧a<l.length then x else l.getD b false:=fun l a b x=>by
  rw[List.getD_eq_getElem?_getD,List.getElem?_set]
  by_cases h:a=b
  ·subst h
   by_cases h2:a<l.length
   ·simp[h2]
   ·simp[h2,List.getD_eq_getElem?_getD,List.getElem?_eq_none (Nat.le_of_not_lt h2)]
  ·simp[h,List.getD_eq_getElem?_getD]
 have key:=bB (step:=qI vs) (fun n s=>(s.1.length=8∧s.2.1.length=8∧s.2.2.length=8)∧ ∀i,i<8→s.1.getD i 0=(if i<n∧b.getD i 0=vs then 0 else a.getD i 0)∧s.2.1.getD i 0=(if i<n∧b.getD i 0=vs then 0 else b.getD i 0)∧s.2.2.getD i false=(if i<n∧b.getD i 0=vs then false else c.getD i false)) b.length (a,b,c)
  ⟨⟨ha,hb,hc⟩,fun i hi=>by rw[if_neg (by omega),if_neg (by omega),if_neg (by omega)];exact⟨rfl,rfl,rfl⟩⟩ fun n s hn h=>by
  obtain⟨⟨h1,h2,h3⟩,h4⟩:=h
  have hn2:s.2.1.getD n 0=b.getD n 0:=by rw[(h4 n (by omega)).2.1,if_neg (by omega)]
  unfold qI
  rw[hn2]
  cases hq:b.getD n 0==vs with
  |true=>
   have hq':b.getD n 0=vs:=by simpa using hq
   rw[cond_true]
   refine⟨by simp[h1,h2,h3],fun i hi=> ?_⟩
   obtain⟨g1,g2,g3⟩:=h4 i hi
   dsimp only
   rw[aU,aU,gB,g1,g2,g3]
   by_cases e:n=i
   ·subst e
    refine⟨?_, ?_, ?_⟩<;>rw[if_pos ⟨rfl,by omega⟩,if_pos ⟨Nat.lt_succ_self n,hq'⟩]
   ·have:(i<n∧b.getD i 0=vs)↔(i<n+1∧b.getD i 0=vs):=⟨fun h=>⟨by omega,h.2⟩,fun h=>⟨by omega,h.2⟩⟩
    simp only[this]
    refine⟨?_, ?_, ?_⟩<;>rw[if_neg (fun h=>e h.1)]
  |false=>
   have hq':b.getD n 0≠vs:=by simpa using hq
   rw[cond_false]
   refine⟨⟨h1,h2,h3⟩,fun i hi=> ?_⟩
   obtain⟨g1,g2,g3⟩:=h4 i hi
   rw[g1,g2,g3]
   have:(i<n∧b.getD i 0=vs)↔(i<n+1∧b.getD i 0=vs):=⟨fun h=>⟨by omega,h.2⟩,fun h=>⟨by
    by_cases e:i=n
    ·subst e;exact absurd h.2 hq'
    ·omega,h.2⟩⟩
   simp only[this]
   exact⟨trivial,trivial,trivial⟩
 obtain⟨g1,g2,g3⟩:=key.2 i hi
 have:(i<b.length∧b.getD i 0=vs)↔b.getD i 0=vs:=⟨fun h=>h.2,fun h=>⟨by omega,h⟩⟩
 simp only[this]at g1 g2 g3
 exact⟨g1,g2,g3⟩
theorem oE (d:List Int):vok d=aE d 4:=by
 unfold vok aE
 congr 1
theorem E8 {v:List Int} {n:Nat} (hv:v.length=n) (h: ∀i,i<n→fok (v.getD i 0)=true):a7 v=true:=by
 simp only[a7,List.all_eq_true]
 intro x hx
 obtain⟨i,hi⟩:=List.getElem?_of_mem hx
 have:=h i (by have:=(List.getElem?_eq_some_iff.1 hi).1;omega)
 rw[List.getD_eq_getElem?_getD,hi]at this
 exact this
theorem jX (k:Int) (d:List Int) {i:Nat} (hi:i<8):(fT k d).getD i 0=c8 k d (i:Int):=by
 match i,hi with
 |0,_|1,_|2,_|3,_|4,_|5,_|6,_|7,_=>rfl
structure rZ (k:Int) (a b:List Int) (c:List Bool) (kd:Int) (d:List Int) (vs:Int):Prop where
 s:Sok k a b c
 rd:rdS k a b c=true
 one:c9 (gD b c) 8 0=true
 kd0:kd=0
 d0:d=[]
 vs0:vs=0
theorem fA {k:Int} {a b:List Int} {c:List Bool} {kd:Int} {d:List Int} {vs:Int}:bC k a b c false kd d vs=true↔rZ k a b c kd d vs:=by
 simp only[bC,cond_false,oW,Bool.and_eq_true,rpS,beq_iff_eq]
 constructor
 ·rintro⟨h1,h2,h3,h4,h5⟩
  unfold srS at h1
  cases hs:bU k a b c with
  |false=>rw[hs]at h1;cases h1
  |true=>
   rw[hs,cond_true]at h1
   have S:=eP.1 hs
   exact⟨S,h1,S.one.2 (by omega),h2,List.eq_nil_of_length_eq_zero (by omega),h4⟩
 ·rintro⟨S,h1,h2,h3,h4,h5⟩
  have hl:=S.one.1 h2
  refine⟨by unfold srS;rw[eP.2 S];exact h1,h3,by rw[h4];rfl,h5, ?_⟩
  unfold rdS at h1
  cases hv:rdV k a b c with
  |none=>rw[hv]at h1;cases h1
  |some x=>
   unfold rdV at hv
   have:=List.mem_of_find?_eq_some hv
   have:=List.length_pos_of_mem this
   omega
structure mO (k:Int) (a b:List Int) (c:List Bool) (kd:Int) (d:List Int) (vs:Int):Prop where
 hd:aE d 4=true
 hkd:bet kd 1 2=true
 hvs:bet vs 1 99=true
 ha:a.length=8
 hb:b.length=8
 hc:c.length=8
 s:Sok k (rsA a b c vs) (rsB a b c vs) (rsC a b c vs)
 one:c9 (gD (rsB a b c vs) (rsC a b c vs)) 8 0=true
 lt:mxL (rsB a b c vs)<vs
 nt: ∀i,i<8→b.getD i 0=vs→c.getD i false=true∧a.getD i 0=c8 kd d i
theorem iM {k:Int} {a b:List Int} {c:List Bool} {kd:Int} {d:List Int} {vs:Int}:bC k a b c true kd d vs=true↔mO k a b c kd d vs:=by
 simp only[bC,cond_true,sR,Bool.and_eq_true,rpS]
 have nt:aE d 4=true→(c9 (jT a b c vs (hI kd d)) 8 0=true↔ ∀i,i<8→b.getD i 0=vs→c.getD i false=true∧a.getD i 0=c8 kd d i):=fun hd=>by
  rw[j4 hd,bX]
  constructor
  ·intro h i hi hv
   have:=h i (by omega) (by omega)
   unfold jT at this
   rw[hv,beq_self_eq_true,cond_true,Bool.and_eq_true,jX _ _ hi]at this
   exact⟨this.1,by simpa using this.2⟩
  ·intro h i _ hi
   unfold jT
   cases hq:b.getD i 0==vs with
   |false=>rfl
   |true=>
    obtain⟨h1,h2⟩:=h i (by omega) (by simpa using hq)
    rw[cond_true,h1,h2,jX _ _ (by omega)];simp
 constructor
 ·rintro⟨h1,h2,h3,h4,h5,h6,h7,h8⟩
  obtain⟨ha,hb,hc⟩:=fG.1 h4
  have S:=eP.1 h5
  refine⟨h1,h2,h3,ha,hb,hc,S,S.one.2 ?_, ?_,(nt h1).1 h8⟩
  ·simp only[Bool.not_eq_true',decide_eq_false_iff_not]at h6;omega
  ·simp only[Bool.not_eq_true',decide_eq_false_iff_not]at h7
   rw[S.top]at h7;omega
 ·rintro⟨h1,h2,h3,ha,hb,hc,S,h6,h7,h8⟩
  have hl:=S.one.1 h6
  refine⟨h1,h2,h3,tO ha hb hc,eP.2 S, ?_, ?_,(nt h1).2 h8⟩
  ·rw[Bool.not_eq_true'];exact decide_eq_false (by omega)
  ·rw[Bool.not_eq_true'];exact decide_eq_false (by rw[S.top];omega)
theorem mO.fok {k:Int} {a b:List Int} {c:List Bool} {kd:Int} {d:List Int} {vs:Int} (h:mO k a b c kd d vs):a7 a=true:=by
 refine E8 h.ha fun i hi=> ?_
 by_cases e:b.getD i 0=vs
 ·rw[(h.nt i hi e).2];exact g9 _ _ _
 ·have:=(mI (vs:=vs) h.ha h.hb h.hc hi).1
  rw[if_neg e]at this
  rw[←this];exact aO h.s.hf i
def ksL (k:Int) (a b:List Int) (c:List Bool) (on:Bool) (kd:Int) (d:List Int) (vs:Int):Bool:=bet k 1 2&&(bZ a c&&(((b.length:Int)==8)&&(bU k (elL a b c on vs).1 (elL a b c on vs).2.1 (elL a b c on vs).2.2&&(c9 (gD (elL a b c on vs).2.1 (elL a b c on vs).2.2) 8 0&&
 (bif on then bet kd 1 2&&(vok d&&(bet vs (mxL (elL a b c on vs).2.1+1) 99&&c9 (jT a b c vs (fT kd d)) 8 0))else l2B k a b c&&(kd==0&&((d.length:Int)==0&&(vs==0))))))))
theorem lB {v:List Int} {c:List Bool}:bZ v c=true↔a7 v=true∧v.length=8∧c.length=8:=by
 unfold bZ
 rw[Bool.and_eq_true,Bool.and_eq_true,beq_iff_eq,beq_iff_eq]
 exact⟨fun h=>⟨h.1,by omega,by omega⟩,fun h=>⟨h.1,by omega,by omega⟩⟩
theorem QS (k:Int) (a b:List Int) (c:List Bool) (on:Bool) (kd:Int) (d:List Int) (vs:Int):bC k a b c on kd d vs=ksL k a b c on kd d vs:=by
 rw[Bool.eq_iff_iff]
 cases on with
 |false=>
  rw[fA]
  simp only[ksL,elL,cond_false,Bool.and_eq_true,rpS,beq_iff_eq]
  constructor
  ·rintro⟨S,h1,h2,h3,h4,h5⟩
   exact⟨S.hk,lB.2 ⟨S.hf,S.ha,S.hc⟩,by rw[S.hb];rfl,eP.2 S,h2,by rw[S.rd.2.2];exact h1,h3,by rw[h4];rfl,h5⟩
  ·rintro⟨h1,h2,h3,h4,h5,h6,h7,h8,h9⟩
   have S:=eP.1 h4
   exact⟨S,by rw[←S.rd.2.2];exact h6,h5,h7,List.eq_nil_of_length_eq_zero (by omega),h9⟩
 |true=>
  rw[iM]
  simp only[ksL,elL,cond_true,Bool.and_eq_true,rpS,beq_iff_eq]
  constructor
  ·intro K
   have hn:=(iM.2 K)
   simp only[bC,cond_true,sR,Bool.and_eq_true,rpS]at hn
   have h8:=hn.2.2.2.2.2.2.2
   rw[j4 K.hd]at h8
   have hv:=aX.1 K.hvs
   have hl:mxL (aJ a b c vs).2.1<vs:=K.lt
   exact⟨K.s.hk,lB.2 ⟨K.fok,K.ha,K.hc⟩,by rw[K.hb];rfl,eP.2 K.s,K.one,K.hkd,by rw[oE];exact K.hd,aX.2 ⟨by omega,hv.2⟩,h8⟩
  ·rintro⟨h1,h2,h3,h4,h5,h6,h7,h8,h9⟩
   obtain⟨v1,v2,v3⟩:=lB.1 h2
   have hb:b.length=8:=by omega
   rw[oE]at h7
   have hm:=gW (aJ a b c vs).2.1
   have hv:=aX.1 h8
   refine⟨h7,h6,aX.2 ⟨by omega,hv.2⟩,v2,hb,v3,eP.1 h4,h5,by show mxL (aJ a b c vs).2.1<vs;omega,fun i hi hvs=> ?_⟩
   have:=bX.1 h9 i (by omega) (by omega)
   unfold jT at this
   rw[hvs,beq_self_eq_true,cond_true,Bool.and_eq_true,jX _ _ hi]at this
   exact⟨this.1,by simpa using this.2⟩
theorem l19 (k:Int) (a b:List Int) (c:List Bool) (on:Bool) (kd:Int) (d:List Int) (vs:Int) (a' b':List Int) (c':List Bool) (ha:a'.length=8) (hb:b'.length=8) (hc:c'.length=8):
  aS Tryz.prog 0 (.block 0 (.loop (a0 0 (a5 f19)))) (I19 k a b c on kd d vs a' b' c' 0) fun e t=>e=(bif c9 (gD b' c') 8 0 then .normal else .ret)∧t=bif c9 (gD b' c') 8 0 then X19 k a b c on kd d vs a' b' c' else Y19 k a b c on kd d vs a' b' c':=by
 refine aS.all hT t59 bK 8 (gD b' c') (fun i=>I19 k a b c on kd d vs a' b' c' i) (X19 k a b c on kd d vs a' b' c') (Y19 k a b c on kd d vs a' b' c') .ret (.inr rfl) (a8 f19 0) (aA f19 0) (fun _=>[]) (fun _ _=>aI.nil) (fun i hi h=> ?_) (fun i hi h=> ?_)
  ⟨_,_,⟨_,_,XT k a b c on kd d vs a' b' c' (8:Nat),by rfl,by simp⟩⟩
 ·unfold gD at h
  cases h1:c'.getD i false with
  |false=>
   have e:=XS k a b c on kd d vs a' b' c' i
   rw[aB (by omega) (by omega),Int.toNat_natCast]at e
   refine⟨_,_,⟨_,_,e, ?_,by simp⟩⟩
   simp only[h1,bS,rpS]
   omega
  |true=>
   rw[h1,cond_true,Bool.not_eq_true']at h
   have e:=XR k a b c on kd d vs a' b' c' i
   rw[aB (by omega) (by omega),Int.toNat_natCast]at e
   refine⟨_,_,⟨_,_,e, ?_,by simp⟩⟩
   simp only[h1,h,bS,rpS]
   omega
 ·unfold gD at h
  rw[if_neg (by intro h;cases h)]
  cases h1:c'.getD i false with
  |false=>rw[h1]at h;cases h
  |true=>
   rw[h1,cond_true,Bool.not_eq_false']at h
   have e:=XQ k a b c on kd d vs a' b' c' i
   rw[Int.toNat_natCast]at e
   refine⟨_,_,⟨_,_,e, ?_,by simp⟩⟩
   simp only[h1,h,bS,rpS]
   omega
theorem a53 (k:Int) (a b:List Int) (c:List Bool) (on:Bool) (kd:Int) (d:List Int) (vs:Int) (ev:List Int) (ha:a.length=8) (hb:b.length=8) (hc:c.length=8) (he:ev.length=8):
  aS Tryz.prog 0 (.block 2 (.loop (a0 2 (a5 f19)))) (J19 k a b c on kd d vs 8 ev 0) fun e t=>e=(bif c9 (jT a b c vs ev) 8 0 then .normal else .ret)∧t=bif c9 (jT a b c vs ev) 8 0 then Z19 else W19:=by
 refine aS.all hT t59 bK 8 (jT a b c vs ev) (fun i=>J19 k a b c on kd d vs 8 ev i) Z19 W19 .ret (.inr rfl) (a8 f19 2) (aA f19 2) (fun _=>[]) (fun _ _=>aI.nil) (fun i hi h=> ?_) (fun i hi h=> ?_)
  ⟨_,_,⟨_,_,WE k a b c on kd d vs 8 ev (8:Nat),by rfl,by simp⟩⟩
 ·unfold jT at h
  cases h1:b.getD i 0==vs with
  |true=>
   rw[h1,cond_true,Bool.and_eq_true,Bool.not_eq_true']at h
   obtain⟨h2,h3⟩:=h
   have e:=WC k a b c on kd d vs 8 ev i
   rw[aB (by omega) (by omega),Int.toNat_natCast]at e
   refine⟨_,_,⟨_,_,e, ?_,by simp⟩⟩
   simp only[h1,h2,h3,bS,rpS]
   omega
  |false=>
   have e:=WD k a b c on kd d vs 8 ev i
   rw[aB (by omega) (by omega),Int.toNat_natCast]at e
   refine⟨_,_,⟨_,_,e, ?_,by simp⟩⟩
   simp only[h1,bS,rpS]
   omega
 ·unfold jT at h
  rw[if_neg (by intro h;cases h)]
  cases h1:b.getD i 0==vs with
  |false=>rw[h1]at h;cases h
  |true=>
   rw[h1,cond_true]at h
   cases h2:c.getD i false with
   |false=>
    have e:=WA k a b c on kd d vs 8 ev i
    rw[Int.toNat_natCast]at e
    refine⟨_,_,⟨_,_,e, ?_,by simp⟩⟩
    simp only[h1,h2,bS,rpS]
    omega
   |true=>
    rw[h2,Bool.true_and,Bool.not_eq_false']at h
    have e:=WB k a b c on kd d vs 8 ev i
    rw[Int.toNat_natCast]at e
    refine⟨_,_,⟨_,_,e, ?_,by simp⟩⟩
    simp only[h1,h2,h,bS,rpS]
    omega
end
section
def AY:aN:=fun args h=>
 match args,h with
 |[.agg [.int .i64 k,.view _ (.ints .i64 a) n1 1 _,.view _ (.ints .i64 b) n2 1 _,.view _ (.bools c) n3 1 _,.bool on,.int .i64 kd,.view _ (.ints .i64 d) n4 1 _,.int .i64 vs]],[]=>
  some (.c (.bool (bC k a b c on kd d vs)),[],[decide (a.length≤274877906944),decide (d.length≤274877906944)])
 |_,_=>none
theorem m19:aT Tryz.prog 14 AY:=by
 intro args h res h' o hnorm he ho
 unfold AY at he
 split at he
 case h_2=>cases he
 rename_i k nl1 a n1 cap1 nl2 b n2 cap2 nl3 c n3 cap3 on kd nl4 d n4 cap4 vs
 simp only[Option.some.injEq,Prod.mk.injEq]at he
 obtain⟨rfl,rfl,rfl⟩:=he
 simp only[List.mem_cons,List.not_mem_nil,or_false,forall_eq_or_imp,forall_eq,decide_eq_true_eq]at ho
 obtain⟨o1,o2⟩:=ho
 simp only[bE,AV.norm,bF,aF.norm,Con.size,List.cons.injEq,AV.c.injEq,AV.agg.injEq,aF.view.injEq,aL,true_and,and_true]at hnorm
 obtain⟨⟨rfl,rfl,rfl⟩,⟨rfl,rfl,rfl⟩,⟨rfl,rfl,rfl⟩,rfl,rfl,rfl⟩:=hnorm
 rw[QS]
 have st: ∀(x:Bool) (p:i6) (ob:Bool),(∀lcv,aD tt (a9 T59) lcv 100 f19 [.agg [.int .i64 k,.view none (.ints .i64 a) a.length 1 none,.view none (.ints .i64 b) b.length 1 none,.view none (.bools c) c.length 1 none,.bool on,.int .i64 kd,.view none (.ints .i64 d) d.length 1 none,.int .i64 vs]] [] p=some ⟨.c (.bool x),[],ob,[]⟩)→ob=true→bA Tryz.prog 14 [.agg [.int .i64 k,.view none (.ints .i64 a) a.length 1 none,.view none (.ints .i64 b) b.length 1 none,.view none (.bools c) c.length 1 none,.bool on,.int .i64 kd,.view none (.ints .i64 d) d.length 1 none,.int .i64 vs]] [] (.c (.bool x)) []:=
  fun x p ob h1 h2=>mo t59 (h1 []) h2
 unfold ksL
 cases h1:bet k 1 2 with
 |false=>exact st _ _ _ (a0M k a b c on kd d vs) (by simp only[h1,bS,rpS])
 |true=>
  cases h2:bZ a c with
  |false=>exact st _ _ _ (a0N k a b c on kd d vs) (by simp only[h1,h2,o1,bS,rpS])
  |true=>
   cases h3:((b.length:Int)==8)with
   |false=>exact st _ _ _ (a0O k a b c on kd d vs) (by simp only[h1,h2,h3,bne,o1,bS,rpS])
   |true=>
    obtain⟨v1,v2,v3⟩:=lB.1 h2
    have hb:b.length=8:=by have:=beq_iff_eq.1 h3;omega
    obtain⟨z1,z2,z3⟩:=QA a b c on vs
    cases h4:bU k (elL a b c on vs).1 (elL a b c on vs).2.1 (elL a b c on vs).2.2 with
    |false=>exact st _ _ _ (a0P k a b c on kd d vs) (by simp only[h1,h2,h3,h4,bne,v2,v3,hb,z1,z2,z3,bS,rpS];simp)
    |true=>
     have S:=eP.1 h4
     have g:=l19 k a b c on kd d vs _ _ _ S.ha S.hb S.hc
     cases h5:c9 (gD (elL a b c on vs).2.1 (elL a b c on vs).2.2) 8 0 with
     |false=>
      rw[h5]at g
      exact mo t59 (UR k a b c on kd d vs) (by simp only[h1,h2,h3,h4,bne,v2,v3,hb,z1,z2,z3,bS,rpS];simp) (hlc:=(fun cc hcc=>aI.cons (c:=cc) (by cases hcc;kernel_rfl) (by cases hcc;exact g) aI.nil))
     |true=>
      rw[h5]at g
      have lo: ∀cc,a5 f19=cc→aI Tryz.prog 0 [(0,⟨a8 f19 0,I19 k a b c on kd d vs (elL a b c on vs).1 (elL a b c on vs).2.1 (elL a b c on vs).2.2 0,.normal,X19 k a b c on kd d vs (elL a b c on vs).1 (elL a b c on vs).2.1 (elL a b c on vs).2.2⟩)] cc:=fun cc hcc=>by
       subst hcc;exact aI.cons (by kernel_rfl) g aI.nil
      have hm:=S.mx
      have n88:(((8:Nat):Int)==8)=true:=rfl
      have s1: ∀(x:Bool) (p:i6) (ob:Bool),aD tt (a9 T59) [(0,⟨a8 f19 0,I19 k a b c on kd d vs (elL a b c on vs).1 (elL a b c on vs).2.1 (elL a b c on vs).2.2 0,.normal,X19 k a b c on kd d vs (elL a b c on vs).1 (elL a b c on vs).2.1 (elL a b c on vs).2.2⟩)] 100 f19 [.agg [.int .i64 k,.view none (.ints .i64 a) a.length 1 none,.view none (.ints .i64 b) b.length 1 none,.view none (.bools c) c.length 1 none,.bool on,.int .i64 kd,.view none (.ints .i64 d) d.length 1 none,.int .i64 vs]] [] p=some ⟨.c (.bool x),[],ob,[I19 k a b c on kd d vs (elL a b c on vs).1 (elL a b c on vs).2.1 (elL a b c on vs).2.2 0=I19 k a b c on kd d vs (elL a b c on vs).1 (elL a b c on vs).2.1 (elL a b c on vs).2.2 0]⟩→ob=true→bA Tryz.prog 14 [.agg [.int .i64 k,.view none (.ints .i64 a) a.length 1 none,.view none (.ints .i64 b) b.length 1 none,.view none (.bools c) c.length 1 none,.bool on,.int .i64 kd,.view none (.ints .i64 d) d.length 1 none,.int .i64 vs]] [] (.c (.bool x)) []:=
       fun x p ob h1 h2=>mo t59 h1 h2 (hlc:=(fun cc hcc=>lo cc (by cases hcc;rfl)))
      cases ho:on with
      |false=>
       subst ho
       have hm2:mxL b≤99:=hm.2
       cases h6:l2B k a b c with
       |false=>exact s1 _ _ _ (UP k a b c false kd d vs) (by simp only[h1,h2,h3,h4,h6,v1,bne,v2,v3,hb,n88,z1,z2,z3,bS,rpS];omega)
       |true=>
        cases h7:kd==0 with
        |false=>exact s1 _ _ _ (UO k a b c false kd d vs) (by simp only[h1,h2,h3,h4,h6,h7,v1,bne,v2,v3,hb,n88,z1,z2,z3,bS,rpS];omega)
        |true=>
         cases h8:(d.length:Int)==0 with
         |false=>exact s1 _ _ _ (UN k a b c false kd d vs) (by simp only[h1,h2,h3,h4,h6,h7,h8,v1,bne,v2,v3,hb,n88,z1,z2,z3,bS,rpS];omega)
         |true=>
          have e:=UM k a b c false kd d vs
          rw[h6,h7,h8]at e
          exact s1 _ _ _ e (by simp only[h1,h2,h3,h4,h6,h7,h8,v1,bne,v2,v3,hb,n88,z1,z2,z3,bS,rpS];omega)
      |true=>
       subst ho
       cases h6:bet kd 1 2 with
       |false=>exact s1 _ _ _ (UQ k a b c true kd d vs) (by simp only[h1,h2,h3,h4,h6,v1,bne,v2,v3,hb,n88,z1,z2,z3,bS,rpS];omega)
       |true=>
        cases h7:vok d with
        |false=>exact s1 _ _ _ (O9 k a b c true kd d vs) (by simp only[h1,h2,h3,h4,h6,h7,v1,bne,v2,v3,hb,n88,z1,z2,z3,bS,rpS];omega)
        |true=>
         have w:IntKind.i64.wrap (mxL (elL a b c true vs).2.1+1)=mxL (elL a b c true vs).2.1+1:=aB (by omega) (by omega)
         cases h8:bet vs (mxL (elL a b c true vs).2.1+1) 99 with
         |false=>exact s1 _ _ _ (OA k a b c true kd d vs) (by simp only[h1,h2,h3,h4,h6,h7,w,h8,v1,bne,v2,v3,hb,n88,z1,z2,z3,bS,rpS];omega)
         |true=>
          have hd:aE d 4=true:=by rw[←oE];exact h7
          have hdf:a7 d=true:=by simp only[aE,Bool.and_eq_true,rpS]at hd;exact hd.1
          have hd4:d.length=4:=by simp only[aE,Bool.and_eq_true,rpS,beq_iff_eq]at hd;omega
          have g2:=a53 k a b c true kd d vs (cdL kd d) v2 hb v3 rfl
          rw[sC h6]at g2
          have lo2: ∀(ex:Ex) (po:St) (cc:Code),(aS Tryz.prog 0 (.block 2 (.loop (a0 2 (a5 f19)))) (J19 k a b c true kd d vs 8 (fT kd d) 0) fun e t=>e=ex∧t=po)→a5 f19=cc→aI Tryz.prog 0 [(0,⟨a8 f19 0,I19 k a b c true kd d vs (elL a b c true vs).1 (elL a b c true vs).2.1 (elL a b c true vs).2.2 0,.normal,X19 k a b c true kd d vs (elL a b c true vs).1 (elL a b c true vs).2.1 (elL a b c true vs).2.2⟩),(2,⟨a8 f19 2,J19 k a b c true kd d vs 8 (cdL kd d) 0,ex,po⟩)] cc:=fun ex po cc gg hcc=>by
           subst hcc;rw[sC h6];exact aI.cons (by kernel_rfl) g (aI.cons (by kernel_rfl) gg aI.nil)
          cases h9:c9 (jT a b c vs (fT kd d)) 8 0 with
          |true=>
           rw[h9]at g2
           exact mo t59 (UL k a b c true kd d vs) (by simp only[h1,h2,h3,h4,h6,h7,w,h8,hdf,hd4,v1,bne,v2,v3,hb,n88,z1,z2,z3,bS,rpS];omega) (hlc:=(fun cc hcc=>lo2 _ _ cc g2 (by cases hcc;rfl)))
          |false=>
           rw[h9]at g2
           exact mo t59 (OB k a b c true kd d vs) (by simp only[h1,h2,h3,h4,h6,h7,w,h8,hdf,hd4,v1,bne,v2,v3,hb,n88,z1,z2,z3,bS,rpS];omega) (hlc:=(fun cc hcc=>lo2 _ _ cc g2 (by cases hcc;rfl)))
noncomputable def T61:List bD:=[⟨14,[],nm AY⟩]++T59
theorem e61:a6 Tryz.prog T61:=by
 refine a6.append ?_ e59
 intro e he
 simp only[List.mem_cons,List.not_mem_nil,or_false]at he
 subst he;exact m19.ok
theorem t61:bJ Tryz.prog (a9 T61):=aM e61
end
section
theorem EO:aP Tryz.prog 105 (fJ tt (a9 T61) Tryz.f105 []):=dZ hT t61 bK [] (by kernel_rfl) (by kernel_rfl)
theorem LQ:aP Tryz.prog 123 (fJ tt (a9 T61) Tryz.f123 []):=dZ hT t61 bK [] (by kernel_rfl) (by kernel_rfl)
noncomputable def T62:List bD:=[⟨105,[],fJ tt (a9 T61) Tryz.f105 []⟩,⟨123,[],fJ tt (a9 T61) Tryz.f123 []⟩]++T61
theorem e62:a6 Tryz.prog T62:=by
 refine a6.append ?_ e61
 intro e he
 simp only[List.mem_cons,List.not_mem_nil,or_false]at he
 rcases he with rfl|rfl
 ·exact EO
 ·exact LQ
theorem t62:bJ Tryz.prog (a9 T62):=aM e62
theorem a0Z (k:Int) (a b:List Int) (c:List Bool) (on:Bool) (kd:Int) (d:List Int) (vs:Int) (x:Int) (e:List Int):aD tt (a9 T62) ([]) 100 Tryz.f17 [.agg [.int .i64 k,.view none (.ints .i64 a) a.length 1 none,.view none (.ints .i64 b) b.length 1 none,.view none (.bools c) c.length 1 none,.bool on,.int .i64 kd,.view none (.ints .i64 d) d.length 1 none,.int .i64 vs],.c (.int .i64 x),.c (.view none (.ints .i64 e) e.length 1 none)] [] [(0,true)]=
  some ⟨.tup [.agg [.int .i64 0,.nils,.nils,.nils,.bool false,.int .i64 0,.nils,.int .i64 0],.c (.bool false)],[],(decide (a.length≤274877906944)&&(decide (d.length≤274877906944)&&(rp3 (!bC k a b c on kd d vs) ((!bC k a b c on kd d vs)&&true)))),[]⟩:=by kernel_rfl
theorem a10 (k:Int) (a b:List Int) (c:List Bool) (on:Bool) (kd:Int) (d:List Int) (vs:Int) (x:Int) (e:List Int):aD tt (a9 T62) ([]) 100 Tryz.f17 [.agg [.int .i64 k,.view none (.ints .i64 a) a.length 1 none,.view none (.ints .i64 b) b.length 1 none,.view none (.bools c) c.length 1 none,.bool on,.int .i64 kd,.view none (.ints .i64 d) d.length 1 none,.int .i64 vs],.c (.int .i64 x),.c (.view none (.ints .i64 e) e.length 1 none)] [] [(0,false),(0,true)]=
  some ⟨.tup [.agg [.int .i64 0,.nils,.nils,.nils,.bool false,.int .i64 0,.nils,.int .i64 0],.c (.bool false)],[],(decide (a.length≤274877906944)&&(decide (d.length≤274877906944)&&(rp3 (!!bC k a b c on kd d vs) (rp4 (bif !bC k a b c on kd d vs then true else !bet x 1 2) true)))),[]⟩:=by kernel_rfl
theorem a11 (k:Int) (a b:List Int) (c:List Bool) (on:Bool) (kd:Int) (d:List Int) (vs:Int) (x:Int) (e:List Int):aD tt (a9 T62) ([]) 100 Tryz.f17 [.agg [.int .i64 k,.view none (.ints .i64 a) a.length 1 none,.view none (.ints .i64 b) b.length 1 none,.view none (.bools c) c.length 1 none,.bool on,.int .i64 kd,.view none (.ints .i64 d) d.length 1 none,.int .i64 vs],.c (.int .i64 x),.c (.view none (.ints .i64 e) e.length 1 none)] [] [(0,false),(0,false),(0,true)]=
  some ⟨.tup [.agg [.int .i64 0,.nils,.nils,.nils,.bool false,.int .i64 0,.nils,.int .i64 0],.c (.bool false)],[],(decide (a.length≤274877906944)&&(decide (d.length≤274877906944)&&(rp3 (!!bC k a b c on kd d vs) (rp2 (!bif !bC k a b c on kd d vs then true else !bet x 1 2) (decide (e.length≤274877906944)&&((!bif !bC k a b c on kd d vs then true else !bet x 1 2)&&((bif bif !bC k a b c on kd d vs then true else !bet x 1 2 then true else !vok e)&&true))))))),[]⟩:=by kernel_rfl
theorem a12 (k:Int) (a b:List Int) (c:List Bool) (on:Bool) (kd:Int) (d:List Int) (vs:Int) (x:Int) (e:List Int):aD tt (a9 T62) ([]) 100 Tryz.f17 [.agg [.int .i64 k,.view none (.ints .i64 a) a.length 1 none,.view none (.ints .i64 b) b.length 1 none,.view none (.bools c) c.length 1 none,.bool on,.int .i64 kd,.view none (.ints .i64 d) d.length 1 none,.int .i64 vs],.c (.int .i64 x),.c (.view none (.ints .i64 e) e.length 1 none)] [] [(0,false),(0,false),(0,false),(0,true)]=
  some ⟨.tup [.agg [.int .i64 k,.sl 0 0 a.length 1 none,.sl 1 0 b.length 1 none,.sl 2 0 c.length 1 none,.bool on,.int .i64 kd,.sl 3 0 d.length 1 none,.int .i64 vs],.c (.bool false)],[.live (.ints .i64 a),.live (.ints .i64 b),.live (.bools c),.live (.ints .i64 d)],(decide (a.length≤274877906944)&&(decide (d.length≤274877906944)&&(rp3 (!!bC k a b c on kd d vs) (rp2 (!bif !bC k a b c on kd d vs then true else !bet x 1 2) (decide (e.length≤274877906944)&&((!bif !bC k a b c on kd d vs then true else !bet x 1 2)&&((!bif bif !bC k a b c on kd d vs then true else !bet x 1 2 then true else !vok e)&&(decide (a.length≤274877906944)&&(decide (b.length≤274877906944)&&(decide (c.length≤274877906944)&&(decide (d.length≤274877906944)&&(rp5 (on) true)))))))))))),[]⟩:=by kernel_rfl
theorem a13 (k:Int) (a b:List Int) (c:List Bool) (on:Bool) (kd:Int) (d:List Int) (vs:Int) (x:Int) (e:List Int):aD tt (a9 T62) ([]) 100 Tryz.f17 [.agg [.int .i64 k,.view none (.ints .i64 a) a.length 1 none,.view none (.ints .i64 b) b.length 1 none,.view none (.bools c) c.length 1 none,.bool on,.int .i64 kd,.view none (.ints .i64 d) d.length 1 none,.int .i64 vs],.c (.int .i64 x),.c (.view none (.ints .i64 e) e.length 1 none)] [] [(0,false),(0,false),(0,false),(0,false),(0,true)]=
  some ⟨.tup [.agg [.int .i64 k,.sl 0 0 a.length 1 none,.sl 1 0 b.length 1 none,.sl 2 0 c.length 1 none,.bool on,.int .i64 kd,.sl 3 0 d.length 1 none,.int .i64 vs],.c (.bool false)],[.live (.ints .i64 a),.live (.ints .i64 b),.live (.bools c),.live (.ints .i64 d)],(decide (a.length≤274877906944)&&(decide (d.length≤274877906944)&&(rp3 (!!bC k a b c on kd d vs) (rp2 (!bif !bC k a b c on kd d vs then true else !bet x 1 2) (decide (e.length≤274877906944)&&((!bif !bC k a b c on kd d vs then true else !bet x 1 2)&&((!bif bif !bC k a b c on kd d vs then true else !bet x 1 2 then true else !vok e)&&(decide (a.length≤274877906944)&&(decide (b.length≤274877906944)&&(decide (c.length≤274877906944)&&(decide (d.length≤274877906944)&&(rp3 (!on) (decide (b.length≤274877906944)&&((!on)&&((bif on then true else decide (mxL b≥99))&&true))))))))))))))),[]⟩:=by kernel_rfl
theorem a14 (k:Int) (a b:List Int) (c:List Bool) (on:Bool) (kd:Int) (d:List Int) (vs:Int) (x:Int) (e:List Int):aD tt (a9 T62) ([]) 100 Tryz.f17 [.agg [.int .i64 k,.view none (.ints .i64 a) a.length 1 none,.view none (.ints .i64 b) b.length 1 none,.view none (.bools c) c.length 1 none,.bool on,.int .i64 kd,.view none (.ints .i64 d) d.length 1 none,.int .i64 vs],.c (.int .i64 x),.c (.view none (.ints .i64 e) e.length 1 none)] [] [(0,false),(0,false),(0,false),(0,false),(0,false)]=
  some ⟨.tup [.agg [.int .i64 k,.sl 0 0 a.length 1 none,.sl 1 0 b.length 1 none,.sl 2 0 c.length 1 none,.bool true,.int .i64 x,.sl 3 0 (0+e.length) 1 none,.int .i64 (IntKind.i64.wrap (mxL b+1))],.c (.bool true)],[.live (.ints .i64 a),.live (.ints .i64 b),.live (.bools c),.live (.ints .i64 ([]++e))],(decide (a.length≤274877906944)&&(decide (d.length≤274877906944)&&(rp3 (!!bC k a b c on kd d vs) (rp2 (!bif !bC k a b c on kd d vs then true else !bet x 1 2) (decide (e.length≤274877906944)&&((!bif !bC k a b c on kd d vs then true else !bet x 1 2)&&((!bif bif !bC k a b c on kd d vs then true else !bet x 1 2 then true else !vok e)&&(decide (a.length≤274877906944)&&(decide (b.length≤274877906944)&&(decide (c.length≤274877906944)&&(decide (d.length≤274877906944)&&(rp3 (!on) (decide (b.length≤274877906944)&&((!on)&&((!bif on then true else decide (mxL b≥99))&&(decide (0+e.length≤274877906944)&&((decide (b.length≤274877906944))&&true))))))))))))))))),[]⟩:=by kernel_rfl
theorem a2U (k:Int) (a b:List Int) (c:List Bool) (on:Bool) (kd:Int) (d:List Int) (vs:Int):aD tt (a9 T62) ([]) 100 Tryz.f137 [.agg [.int .i64 k,.view none (.ints .i64 a) a.length 1 none,.view none (.ints .i64 b) b.length 1 none,.view none (.bools c) c.length 1 none,.bool on,.int .i64 kd,.view none (.ints .i64 d) d.length 1 none,.int .i64 vs]] [] [(0,true)]=
  some ⟨.c (.sl 0 0 (0+d.length) 1 none),[.live (.ints .i64 ([]++d))],((on)&&((decide (0+d.length≤274877906944))&&true)),[]⟩:=by kernel_rfl
theorem a2V (k:Int) (a b:List Int) (c:List Bool) (on:Bool) (kd:Int) (d:List Int) (vs:Int):aD tt (a9 T62) ([]) 100 Tryz.f137 [.agg [.int .i64 k,.view none (.ints .i64 a) a.length 1 none,.view none (.ints .i64 b) b.length 1 none,.view none (.bools c) c.length 1 none,.bool on,.int .i64 kd,.view none (.ints .i64 d) d.length 1 none,.int .i64 vs]] [] [(0,false)]=
  some ⟨.c (.sl 0 0 (l2D k a b c).length 1 none),[.live (.ints .i64 (l2D k a b c))],((!on)&&(bet k 1 2&&(decide (a.length=8)&&(a7 a&&(decide (b.length=8)&&(decide (c.length=8)&&((decide (mxL b≤1000))&&true))))))),[]⟩:=by kernel_rfl
theorem a2Z (k:Int) (a b:List Int) (c:List Bool) (on:Bool) (kd:Int) (d:List Int) (vs:Int) (x:Int):aD tt (a9 T62) ([]) 100 Tryz.f13 [.agg [.int .i64 k,.view none (.ints .i64 a) a.length 1 none,.view none (.ints .i64 b) b.length 1 none,.view none (.bools c) c.length 1 none,.bool on,.int .i64 kd,.view none (.ints .i64 d) d.length 1 none,.int .i64 vs],.c (.int .i64 x)] [] [(0,true)]=
  some ⟨.agg [.int .i64 0,.nils,.nils,.nils,.bool false,.int .i64 0,.nils,.int .i64 0],[],(decide (a.length≤274877906944)&&(decide (d.length≤274877906944)&&(rp3 (!bC k a b c on kd d vs) ((!bC k a b c on kd d vs)&&true)))),[]⟩:=by kernel_rfl
theorem a30 (k:Int) (a b:List Int) (c:List Bool) (on:Bool) (kd:Int) (d:List Int) (vs:Int) (x:Int):aD tt (a9 T62) ([]) 100 Tryz.f13 [.agg [.int .i64 k,.view none (.ints .i64 a) a.length 1 none,.view none (.ints .i64 b) b.length 1 none,.view none (.bools c) c.length 1 none,.bool on,.int .i64 kd,.view none (.ints .i64 d) d.length 1 none,.int .i64 vs],.c (.int .i64 x)] [] [(0,false),(0,true)]=
  some ⟨.agg [.int .i64 0,.nils,.nils,.nils,.bool false,.int .i64 0,.nils,.int .i64 0],[],(decide (a.length≤274877906944)&&(decide (d.length≤274877906944)&&(rp3 (!!bC k a b c on kd d vs) ((bif !bC k a b c on kd d vs then true else !bet x 0 7)&&true)))),[]⟩:=by kernel_rfl
theorem a31 (k:Int) (a b:List Int) (c:List Bool) (on:Bool) (kd:Int) (d:List Int) (vs:Int) (x:Int):aD tt (a9 T62) ([]) 100 Tryz.f13 [.agg [.int .i64 k,.view none (.ints .i64 a) a.length 1 none,.view none (.ints .i64 b) b.length 1 none,.view none (.bools c) c.length 1 none,.bool on,.int .i64 kd,.view none (.ints .i64 d) d.length 1 none,.int .i64 vs],.c (.int .i64 x)] [] [(0,false),(0,false),(0,true),(0,true)]=
  some ⟨.agg [.int .i64 k,.sl 0 0 a.length 1 none,.sl 1 0 b.length 1 none,.sl 2 0 c.length 1 none,.bool on,.int .i64 kd,.sl 3 0 d.length 1 none,.int .i64 vs],[.live (.ints .i64 a),.live (.ints .i64 b),.live (.bools c),.live (.ints .i64 d)],(decide (a.length≤274877906944)&&(decide (d.length≤274877906944)&&(rp3 (!!bC k a b c on kd d vs) ((!bif !bC k a b c on kd d vs then true else !bet x 0 7)&&(decide (a.length≤274877906944)&&(decide (b.length≤274877906944)&&(decide (c.length≤274877906944)&&(decide (d.length≤274877906944)&&((decide (a.length≤274877906944)&&(decide (b.length≤274877906944)&&(decide (c.length≤274877906944)&&(decide (0≤x)&&(decide (x<(↑a.length:Int))&&(decide (x.toNat<a.length)&&(decide (0≤x)&&(decide (x<(↑b.length:Int))&&(decide (x.toNat<b.length)&&(decide (0≤x)&&(decide (x<(↑c.length:Int))&&(decide (x.toNat<c.length)&&true))))))))))))&&(decide (a.length=(a.set x.toNat 0).length)&&(decide (b.length=(b.set x.toNat 0).length)&&(decide (c.length=(c.set x.toNat false).length)&&(bet k 1 2&&(decide ((a.set x.toNat 0).length=8)&&(a7 (a.set x.toNat 0)&&(decide ((b.set x.toNat 0).length=8)&&(decide ((c.set x.toNat false).length=8)&&(decide (mxL (b.set x.toNat 0)≤1000)&&(rp2 (!on) ((bif !on then !l2B k (a.set x.toNat 0) (b.set x.toNat 0) (c.set x.toNat false)else false)&&(decide (a.length≤274877906944)&&(decide (b.length≤274877906944)&&(decide (c.length≤274877906944)&&((decide (d.length≤274877906944))&&true)))))))))))))))))))))))),[]⟩:=by kernel_rfl
theorem a32 (k:Int) (a b:List Int) (c:List Bool) (on:Bool) (kd:Int) (d:List Int) (vs:Int) (x:Int):aD tt (a9 T62) ([]) 100 Tryz.f13 [.agg [.int .i64 k,.view none (.ints .i64 a) a.length 1 none,.view none (.ints .i64 b) b.length 1 none,.view none (.bools c) c.length 1 none,.bool on,.int .i64 kd,.view none (.ints .i64 d) d.length 1 none,.int .i64 vs],.c (.int .i64 x)] [] [(0,false),(0,false),(0,true),(0,false)]=
  some ⟨.agg [.int .i64 k,.sl 0 0 a.length 1 none,.sl 1 0 b.length 1 none,.sl 2 0 c.length 1 none,.bool on,.int .i64 kd,.sl 3 0 d.length 1 none,.int .i64 vs],[.live (.ints .i64 (a.set x.toNat 0)),.live (.ints .i64 (b.set x.toNat 0)),.live (.bools (c.set x.toNat false)),.live (.ints .i64 d)],(decide (a.length≤274877906944)&&(decide (d.length≤274877906944)&&(rp3 (!!bC k a b c on kd d vs) ((!bif !bC k a b c on kd d vs then true else !bet x 0 7)&&(decide (a.length≤274877906944)&&(decide (b.length≤274877906944)&&(decide (c.length≤274877906944)&&(decide (d.length≤274877906944)&&((decide (a.length≤274877906944)&&(decide (b.length≤274877906944)&&(decide (c.length≤274877906944)&&(decide (0≤x)&&(decide (x<(↑a.length:Int))&&(decide (x.toNat<a.length)&&(decide (0≤x)&&(decide (x<(↑b.length:Int))&&(decide (x.toNat<b.length)&&(decide (0≤x)&&(decide (x<(↑c.length:Int))&&(decide (x.toNat<c.length)&&true))))))))))))&&(decide (a.length=(a.set x.toNat 0).length)&&(decide (b.length=(b.set x.toNat 0).length)&&(decide (c.length=(c.set x.toNat false).length)&&(bet k 1 2&&(decide ((a.set x.toNat 0).length=8)&&(a7 (a.set x.toNat 0)&&(decide ((b.set x.toNat 0).length=8)&&(decide ((c.set x.toNat false).length=8)&&(decide (mxL (b.set x.toNat 0)≤1000)&&(rp2 (!on) ((!bif !on then !l2B k (a.set x.toNat 0) (b.set x.toNat 0) (c.set x.toNat false)else false)&&true)))))))))))))))))))),[]⟩:=by kernel_rfl
theorem a33 (k:Int) (a b:List Int) (c:List Bool) (on:Bool) (kd:Int) (d:List Int) (vs:Int) (x:Int):aD tt (a9 T62) ([]) 100 Tryz.f13 [.agg [.int .i64 k,.view none (.ints .i64 a) a.length 1 none,.view none (.ints .i64 b) b.length 1 none,.view none (.bools c) c.length 1 none,.bool on,.int .i64 kd,.view none (.ints .i64 d) d.length 1 none,.int .i64 vs],.c (.int .i64 x)] [] [(0,false),(0,false),(0,false)]=
  some ⟨.agg [.int .i64 k,.sl 0 0 a.length 1 none,.sl 1 0 b.length 1 none,.sl 2 0 c.length 1 none,.bool on,.int .i64 kd,.sl 3 0 d.length 1 none,.int .i64 vs],[.live (.ints .i64 (a.set x.toNat 0)),.live (.ints .i64 (b.set x.toNat 0)),.live (.bools (c.set x.toNat false)),.live (.ints .i64 d)],(decide (a.length≤274877906944)&&(decide (d.length≤274877906944)&&(rp3 (!!bC k a b c on kd d vs) ((!bif !bC k a b c on kd d vs then true else !bet x 0 7)&&(decide (a.length≤274877906944)&&(decide (b.length≤274877906944)&&(decide (c.length≤274877906944)&&(decide (d.length≤274877906944)&&((decide (a.length≤274877906944)&&(decide (b.length≤274877906944)&&(decide (c.length≤274877906944)&&(decide (0≤x)&&(decide (x<(↑a.length:Int))&&(decide (x.toNat<a.length)&&(decide (0≤x)&&(decide (x<(↑b.length:Int))&&(decide (x.toNat<b.length)&&(decide (0≤x)&&(decide (x<(↑c.length:Int))&&(decide (x.toNat<c.length)&&true))))))))))))&&(decide (a.length=(a.set x.toNat 0).length)&&(decide (b.length=(b.set x.toNat 0).length)&&(decide (c.length=(c.set x.toNat false).length)&&(bet k 1 2&&(decide ((a.set x.toNat 0).length=8)&&(a7 (a.set x.toNat 0)&&(decide ((b.set x.toNat 0).length=8)&&(decide ((c.set x.toNat false).length=8)&&(decide (mxL (b.set x.toNat 0)≤1000)&&(rp3 (!!on) true))))))))))))))))))),[]⟩:=by kernel_rfl
theorem a1O (k:Int) (a b:List Int) (c:List Bool) (on:Bool) (kd:Int) (d:List Int) (vs:Int) (x:Int):aD tt (a9 T62) ([]) 100 Tryz.f11 [.agg [.int .i64 k,.view none (.ints .i64 a) a.length 1 none,.view none (.ints .i64 b) b.length 1 none,.view none (.bools c) c.length 1 none,.bool on,.int .i64 kd,.view none (.ints .i64 d) d.length 1 none,.int .i64 vs],.c (.int .i64 x)] [] [(0,true)]=
  some ⟨.agg [.int .i64 0,.nils,.nils,.nils,.bool false,.int .i64 0,.nils,.int .i64 0],[],(decide (d.length≤274877906944)&&(rp3 (!bC k a b c on kd d vs) ((!bC k a b c on kd d vs)&&true))),[]⟩:=by kernel_rfl
theorem a1P (k:Int) (a b:List Int) (c:List Bool) (on:Bool) (kd:Int) (d:List Int) (vs:Int) (x:Int):aD tt (a9 T62) ([]) 100 Tryz.f11 [.agg [.int .i64 k,.view none (.ints .i64 a) a.length 1 none,.view none (.ints .i64 b) b.length 1 none,.view none (.bools c) c.length 1 none,.bool on,.int .i64 kd,.view none (.ints .i64 d) d.length 1 none,.int .i64 vs],.c (.int .i64 x)] [] [(0,false),(0,true)]=
  some ⟨.agg [.int .i64 0,.nils,.nils,.nils,.bool false,.int .i64 0,.nils,.int .i64 0],[],(decide (d.length≤274877906944)&&(rp3 (!!bC k a b c on kd d vs) ((bif !bC k a b c on kd d vs then true else !bet x 0 7)&&true))),[]⟩:=by kernel_rfl
theorem a1Q (k:Int) (a b:List Int) (c:List Bool) (on:Bool) (kd:Int) (d:List Int) (vs:Int) (x:Int):aD tt (a9 T62) ([]) 100 Tryz.f11 [.agg [.int .i64 k,.view none (.ints .i64 a) a.length 1 none,.view none (.ints .i64 b) b.length 1 none,.view none (.bools c) c.length 1 none,.bool on,.int .i64 kd,.view none (.ints .i64 d) d.length 1 none,.int .i64 vs],.c (.int .i64 x)] [] [(0,false),(0,false),(0,true),(0,true)]=
  some ⟨.agg [.int .i64 k,.sl 0 0 a.length 1 none,.sl 1 0 b.length 1 none,.sl 2 0 c.length 1 none,.bool on,.int .i64 kd,.sl 3 0 d.length 1 none,.int .i64 vs],[.live (.ints .i64 a),.live (.ints .i64 b),.live (.bools c),.live (.ints .i64 d)],(decide (d.length≤274877906944)&&(rp3 (!!bC k a b c on kd d vs) ((!bif !bC k a b c on kd d vs then true else !bet x 0 7)&&(decide (a.length≤274877906944)&&(decide (b.length≤274877906944)&&(decide (c.length≤274877906944)&&(decide (d.length≤274877906944)&&((decide (0≤x)&&(decide (x<(↑a.length:Int))&&(decide (x.toNat<a.length)&&(decide (0≤x)&&(decide (x<(↑b.length:Int))&&(decide (x.toNat<b.length)&&(decide (0≤x)&&(decide (x<(↑c.length:Int))&&(decide (x.toNat<c.length)&&true)))))))))&&(decide (a.length=(a.set x.toNat 0).length)&&(decide (b.length=(b.set x.toNat 0).length)&&(decide (c.length=(c.set x.toNat false).length)&&(decide ((c.set x.toNat false).length=8)&&(decide ((b.set x.toNat 0).length=8)&&(decide ((a.set x.toNat 0).length=8)&&(bet k 1 2&&(a7 (a.set x.toNat 0)&&(rp3 (!rdS k (a.set x.toNat 0) (b.set x.toNat 0) (c.set x.toNat false)) ((bif !rdS k (a.set x.toNat 0) (b.set x.toNat 0) (c.set x.toNat false)then !on else false)&&(decide (a.length≤274877906944)&&(decide (b.length≤274877906944)&&(decide (c.length≤274877906944)&&((decide (d.length≤274877906944))&&true)))))))))))))))))))))),[]⟩:=by kernel_rfl
theorem a1R (k:Int) (a b:List Int) (c:List Bool) (on:Bool) (kd:Int) (d:List Int) (vs:Int) (x:Int):aD tt (a9 T62) ([]) 100 Tryz.f11 [.agg [.int .i64 k,.view none (.ints .i64 a) a.length 1 none,.view none (.ints .i64 b) b.length 1 none,.view none (.bools c) c.length 1 none,.bool on,.int .i64 kd,.view none (.ints .i64 d) d.length 1 none,.int .i64 vs],.c (.int .i64 x)] [] [(0,false),(0,false),(0,true),(0,false)]=
  some ⟨.agg [.int .i64 k,.sl 0 0 a.length 1 none,.sl 1 0 b.length 1 none,.sl 2 0 c.length 1 none,.bool on,.int .i64 kd,.sl 3 0 d.length 1 none,.int .i64 vs],[.live (.ints .i64 (a.set x.toNat 0)),.live (.ints .i64 (b.set x.toNat 0)),.live (.bools (c.set x.toNat false)),.live (.ints .i64 d)],(decide (d.length≤274877906944)&&(rp3 (!!bC k a b c on kd d vs) ((!bif !bC k a b c on kd d vs then true else !bet x 0 7)&&(decide (a.length≤274877906944)&&(decide (b.length≤274877906944)&&(decide (c.length≤274877906944)&&(decide (d.length≤274877906944)&&((decide (0≤x)&&(decide (x<(↑a.length:Int))&&(decide (x.toNat<a.length)&&(decide (0≤x)&&(decide (x<(↑b.length:Int))&&(decide (x.toNat<b.length)&&(decide (0≤x)&&(decide (x<(↑c.length:Int))&&(decide (x.toNat<c.length)&&true)))))))))&&(decide (a.length=(a.set x.toNat 0).length)&&(decide (b.length=(b.set x.toNat 0).length)&&(decide (c.length=(c.set x.toNat false).length)&&(decide ((c.set x.toNat false).length=8)&&(decide ((b.set x.toNat 0).length=8)&&(decide ((a.set x.toNat 0).length=8)&&(bet k 1 2&&(a7 (a.set x.toNat 0)&&(rp3 (!rdS k (a.set x.toNat 0) (b.set x.toNat 0) (c.set x.toNat false)) ((!bif !rdS k (a.set x.toNat 0) (b.set x.toNat 0) (c.set x.toNat false)then !on else false)&&true)))))))))))))))))),[]⟩:=by kernel_rfl
theorem a1S (k:Int) (a b:List Int) (c:List Bool) (on:Bool) (kd:Int) (d:List Int) (vs:Int) (x:Int):aD tt (a9 T62) ([]) 100 Tryz.f11 [.agg [.int .i64 k,.view none (.ints .i64 a) a.length 1 none,.view none (.ints .i64 b) b.length 1 none,.view none (.bools c) c.length 1 none,.bool on,.int .i64 kd,.view none (.ints .i64 d) d.length 1 none,.int .i64 vs],.c (.int .i64 x)] [] [(0,false),(0,false),(0,false)]=
  some ⟨.agg [.int .i64 k,.sl 0 0 a.length 1 none,.sl 1 0 b.length 1 none,.sl 2 0 c.length 1 none,.bool on,.int .i64 kd,.sl 3 0 d.length 1 none,.int .i64 vs],[.live (.ints .i64 (a.set x.toNat 0)),.live (.ints .i64 (b.set x.toNat 0)),.live (.bools (c.set x.toNat false)),.live (.ints .i64 d)],(decide (d.length≤274877906944)&&(rp3 (!!bC k a b c on kd d vs) ((!bif !bC k a b c on kd d vs then true else !bet x 0 7)&&(decide (a.length≤274877906944)&&(decide (b.length≤274877906944)&&(decide (c.length≤274877906944)&&(decide (d.length≤274877906944)&&((decide (0≤x)&&(decide (x<(↑a.length:Int))&&(decide (x.toNat<a.length)&&(decide (0≤x)&&(decide (x<(↑b.length:Int))&&(decide (x.toNat<b.length)&&(decide (0≤x)&&(decide (x<(↑c.length:Int))&&(decide (x.toNat<c.length)&&true)))))))))&&(decide (a.length=(a.set x.toNat 0).length)&&(decide (b.length=(b.set x.toNat 0).length)&&(decide (c.length=(c.set x.toNat false).length)&&(decide ((c.set x.toNat false).length=8)&&(decide ((b.set x.toNat 0).length=8)&&(decide ((a.set x.toNat 0).length=8)&&(bet k 1 2&&(a7 (a.set x.toNat 0)&&(rp3 (!!rdS k (a.set x.toNat 0) (b.set x.toNat 0) (c.set x.toNat false)) ((!!rdS k (a.set x.toNat 0) (b.set x.toNat 0) (c.set x.toNat false))&&true)))))))))))))))))),[]⟩:=by kernel_rfl
theorem a0J (k:Int) (a b:List Int) (c:List Bool) (on:Bool) (kd:Int) (d:List Int) (vs:Int):aD tt (a9 T62) ([]) 100 Tryz.f64 [.agg [.int .i64 k,.view none (.ints .i64 a) a.length 1 none,.view none (.ints .i64 b) b.length 1 none,.view none (.bools c) c.length 1 none,.bool on,.int .i64 kd,.view none (.ints .i64 d) d.length 1 none,.int .i64 vs]] [] [(0,true)]=
  some ⟨.agg [.int .i64 0,.nils,.nils,.nils,.bool false,.int .i64 0,.nils,.int .i64 0],[],(decide (a.length≤274877906944)&&(decide (d.length≤274877906944)&&((!bC k a b c on kd d vs)&&true))),[]⟩:=by kernel_rfl
theorem a0K (k:Int) (a b:List Int) (c:List Bool) (on:Bool) (kd:Int) (d:List Int) (vs:Int):aD tt (a9 T62) ([]) 100 Tryz.f64 [.agg [.int .i64 k,.view none (.ints .i64 a) a.length 1 none,.view none (.ints .i64 b) b.length 1 none,.view none (.bools c) c.length 1 none,.bool on,.int .i64 kd,.view none (.ints .i64 d) d.length 1 none,.int .i64 vs]] [] [(0,false),(0,true)]=
  some ⟨.agg [.int .i64 k,.sl 0 0 a.length 1 none,.sl 1 0 b.length 1 none,.sl 2 0 c.length 1 none,.bool on,.int .i64 kd,.sl 3 0 d.length 1 none,.int .i64 vs],[.live (.ints .i64 a),.live (.ints .i64 b),.live (.bools c),.live (.ints .i64 d)],(decide (a.length≤274877906944)&&(decide (d.length≤274877906944)&&(!!bC k a b c on kd d vs&&((!on)&&(decide (a.length≤274877906944)&&(decide (b.length≤274877906944)&&(decide (c.length≤274877906944)&&((decide (d.length≤274877906944))&&true)))))))),[]⟩:=by kernel_rfl
theorem a0L (k:Int) (a b:List Int) (c:List Bool) (on:Bool) (kd:Int) (d:List Int) (vs:Int):aD tt (a9 T62) ([]) 100 Tryz.f64 [.agg [.int .i64 k,.view none (.ints .i64 a) a.length 1 none,.view none (.ints .i64 b) b.length 1 none,.view none (.bools c) c.length 1 none,.bool on,.int .i64 kd,.view none (.ints .i64 d) d.length 1 none,.int .i64 vs]] [] [(0,false),(0,false)]=
  some ⟨.agg [.int .i64 kd,.sl 0 0 ((((((((a.set 0 (aQ (aH kd 0) d)).set 1 (aQ (aH kd 1) d)).set 2 (aQ (aH kd 2) d)).set 3 (aQ (aH kd 3) d)).set 4 (aQ (aH kd 4) d)).set 5 (aQ (aH kd 5) d)).set 6 (aQ (aH kd 6) d)).set 7 (aQ (aH kd 7) d)).length 1 none,.sl 1 0 ((((((((b.set 0 vs).set 1 vs).set 2 vs).set 3 vs).set 4 vs).set 5 vs).set 6 vs).set 7 vs).length 1 none,.sl 2 0 ((((((((c.set 0 true).set 1 true).set 2 true).set 3 true).set 4 true).set 5 true).set 6 true).set 7 true).length 1 none,.bool false,.int .i64 0,.sl 3 0 0 1 none,.int .i64 0],[.live (.ints .i64 ((((((((a.set 0 (aQ (aH kd 0) d)).set 1 (aQ (aH kd 1) d)).set 2 (aQ (aH kd 2) d)).set 3 (aQ (aH kd 3) d)).set 4 (aQ (aH kd 4) d)).set 5 (aQ (aH kd 5) d)).set 6 (aQ (aH kd 6) d)).set 7 (aQ (aH kd 7) d))),.live (.ints .i64 ((((((((b.set 0 vs).set 1 vs).set 2 vs).set 3 vs).set 4 vs).set 5 vs).set 6 vs).set 7 vs)),.live (.bools ((((((((c.set 0 true).set 1 true).set 2 true).set 3 true).set 4 true).set 5 true).set 6 true).set 7 true)),.live (.ints .i64 [])],(decide (a.length≤274877906944)&&(decide (d.length≤274877906944)&&(!!bC k a b c on kd d vs&&((!!on)&&((decide (a.length≤274877906944)&&(decide (b.length≤274877906944)&&(decide (c.length≤274877906944)&&(decide (d.length≤274877906944)&&(bet kd 1 2&&(decide (d.length=4)&&(a7 d&&(decide (0<(↑a.length:Int))&&(decide (0<a.length)&&(decide (0<(↑b.length:Int))&&(decide (0<b.length)&&(decide (0<(↑c.length:Int))&&(decide (0<c.length)&&true)))))))))))))&&(decide (a.length=(a.set 0 (aQ (aH kd 0) d)).length)&&(decide (b.length=(b.set 0 vs).length)&&(decide (c.length=(c.set 0 true).length)&&(decide (d.length=d.length)&&((decide ((a.set 0 (aQ (aH kd 0) d)).length≤274877906944)&&(decide ((b.set 0 vs).length≤274877906944)&&(decide ((c.set 0 true).length≤274877906944)&&(decide (d.length≤274877906944)&&(bet kd 1 2&&(decide (d.length=4)&&(a7 d&&(decide (1<(↑(a.set 0 (aQ (aH kd 0) d)).length:Int))&&(decide (1<(a.set 0 (aQ (aH kd 0) d)).length)&&(decide (1<(↑(b.set 0 vs).length:Int))&&(decide (1<(b.set 0 vs).length)&&(decide (1<(↑(c.set 0 true).length:Int))&&(decide (1<(c.set 0 true).length)&&true)))))))))))))&&(decide ((a.set 0 (aQ (aH kd 0) d)).length=((a.set 0 (aQ (aH kd 0) d)).set 1 (aQ (aH kd 1) d)).length)&&(decide ((b.set 0 vs).length=((b.set 0 vs).set 1 vs).length)&&(decide ((c.set 0 true).length=((c.set 0 true).set 1 true).length)&&(decide (d.length=d.length)&&((decide (((a.set 0 (aQ (aH kd 0) d)).set 1 (aQ (aH kd 1) d)).length≤274877906944)&&(decide (((b.set 0 vs).set 1 vs).length≤274877906944)&&(decide (((c.set 0 true).set 1 true).length≤274877906944)&&(decide (d.length≤274877906944)&&(bet kd 1 2&&(decide (d.length=4)&&(a7 d&&(decide (2<(↑((a.set 0 (aQ (aH kd 0) d)).set 1 (aQ (aH kd 1) d)).length:Int))&&(decide (2<((a.set 0 (aQ (aH kd 0) d)).set 1 (aQ (aH kd 1) d)).length)&&(decide (2<(↑((b.set 0 vs).set 1 vs).length:Int))&&(decide (2<((b.set 0 vs).set 1 vs).length)&&(decide (2<(↑((c.set 0 true).set 1 true).length:Int))&&(decide (2<((c.set 0 true).set 1 true).length)&&true)))))))))))))&&(decide (((a.set 0 (aQ (aH kd 0) d)).set 1 (aQ (aH kd 1) d)).length=(((a.set 0 (aQ (aH kd 0) d)).set 1 (aQ (aH kd 1) d)).set 2 (aQ (aH kd 2) d)).length)&&(decide (((b.set 0 vs).set 1 vs).length=(((b.set 0 vs).set 1 vs).set 2 vs).length)&&(decide (((c.set 0 true).set 1 true).length=(((c.set 0 true).set 1 true).set 2 true).length)&&(decide (d.length=d.length)&&((decide ((((a.set 0 (aQ (aH kd 0) d)).set 1 (aQ (aH kd 1) d)).set 2 (aQ (aH kd 2) d)).length≤274877906944)&&(decide ((((b.set 0 vs).set 1 vs).set 2 vs).length≤274877906944)&&(decide ((((c.set 0 true).set 1 true).set 2 true).length≤274877906944)&&(decide (d.length≤274877906944)&&(bet kd 1 2&&(decide (d.length=4)&&(a7 d&&(decide (3<(↑(((a.set 0 (aQ (aH kd 0) d)).set 1 (aQ (aH kd 1) d)).set 2 (aQ (aH kd 2) d)).length:Int))&&(decide (3<(((a.set 0 (aQ (aH kd 0) d)).set 1 (aQ (aH kd 1) d)).set 2 (aQ (aH kd 2) d)).length)&&(decide (3<(↑(((b.set 0 vs).set 1 vs).set 2 vs).length:Int))&&(decide (3<(((b.set 0 vs).set 1 vs).set 2 vs).length)&&(decide (3<(↑(((c.set 0 true).set 1 true).set 2 true).length:Int))&&(decide (3<(((c.set 0 true).set 1 true).set 2 true).length)&&true)))))))))))))&&(decide ((((a.set 0 (aQ (aH kd 0) d)).set 1 (aQ (aH kd 1) d)).set 2 (aQ (aH kd 2) d)).length=((((a.set 0 (aQ (aH kd 0) d)).set 1 (aQ (aH kd 1) d)).set 2 (aQ (aH kd 2) d)).set 3 (aQ (aH kd 3) d)).length)&&(decide ((((b.set 0 vs).set 1 vs).set 2 vs).length=((((b.set 0 vs).set 1 vs).set 2 vs).set 3 vs).length)&&(decide ((((c.set 0 true).set 1 true).set 2 true).length=((((c.set 0 true).set 1 true).set 2 true).set 3 true).length)&&(decide (d.length=d.length)&&((decide (((((a.set 0 (aQ (aH kd 0) d)).set 1 (aQ (aH kd 1) d)).set 2 (aQ (aH kd 2) d)).set 3 (aQ (aH kd 3) d)).length≤274877906944)&&(decide (((((b.set 0 vs).set 1 vs).set 2 vs).set 3 vs).length≤274877906944)&&(decide (((((c.set 0 true).set 1 true).set 2 true).set 3 true).length≤274877906944)&&(decide (d.length≤274877906944)&&(bet kd 1 2&&(decide (d.length=4)&&(a7 d&&(decide (4<(↑((((a.set 0 (aQ (aH kd 0) d)).set 1 (aQ (aH kd 1) d)).set 2 (aQ (aH kd 2) d)).set 3 (aQ (aH kd 3) d)).length:Int))&&(decide (4<((((a.set 0 (aQ (aH kd 0) d)).set 1 (aQ (aH kd 1) d)).set 2 (aQ (aH kd 2) d)).set 3 (aQ (aH kd 3) d)).length)&&(decide (4<(↑((((b.set 0 vs).set 1 vs).set 2 vs).set 3 vs).length:Int))&&(decide (4<((((b.set 0 vs).set 1 vs).set 2 vs).set 3 vs).length)&&(decide (4<(↑((((c.set 0 true).set 1 true).set 2 true).set 3 true).length:Int))&&(decide (4<((((c.set 0 true).set 1 true).set 2 true).set 3 true).length)&&true)))))))))))))&&(decide (((((a.set 0 (aQ (aH kd 0) d)).set 1 (aQ (aH kd 1) d)).set 2 (aQ (aH kd 2) d)).set 3 (aQ (aH kd 3) d)).length=(((((a.set 0 (aQ (aH kd 0) d)).set 1 (aQ (aH kd 1) d)).set 2 (aQ (aH kd 2) d)).set 3 (aQ (aH kd 3) d)).set 4 (aQ (aH kd 4) d)).length)&&(decide (((((b.set 0 vs).set 1 vs).set 2 vs).set 3 vs).length=(((((b.set 0 vs).set 1 vs).set 2 vs).set 3 vs).set 4 vs).length)&&(decide (((((c.set 0 true).set 1 true).set 2 true).set 3 true).length=(((((c.set 0 true).set 1 true).set 2 true).set 3 true).set 4 true).length)&&(decide (d.length=d.length)&&((decide ((((((a.set 0 (aQ (aH kd 0) d)).set 1 (aQ (aH kd 1) d)).set 2 (aQ (aH kd 2) d)).set 3 (aQ (aH kd 3) d)).set 4 (aQ (aH kd 4) d)).length≤274877906944)&&(decide ((((((b.set 0 vs).set 1 vs).set 2 vs).set 3 vs).set 4 vs).length≤274877906944)&&(decide ((((((c.set 0 true).set 1 true).set 2 true).set 3 true).set 4 true).length≤274877906944)&&(decide (d.length≤274877906944)&&(bet kd 1 2&&(decide (d.length=4)&&(a7 d&&(decide (5<(↑(((((a.set 0 (aQ (aH kd 0) d)).set 1 (aQ (aH kd 1) d)).set 2 (aQ (aH kd 2) d)).set 3 (aQ (aH kd 3) d)).set 4 (aQ (aH kd 4) d)).length:Int))&&(decide (5<(((((a.set 0 (aQ (aH kd 0) d)).set 1 (aQ (aH kd 1) d)).set 2 (aQ (aH kd 2) d)).set 3 (aQ (aH kd 3) d)).set 4 (aQ (aH kd 4) d)).length)&&(decide (5<(↑(((((b.set 0 vs).set 1 vs).set 2 vs).set 3 vs).set 4 vs).length:Int))&&(decide (5<(((((b.set 0 vs).set 1 vs).set 2 vs).set 3 vs).set 4 vs).length)&&(decide (5<(↑(((((c.set 0 true).set 1 true).set 2 true).set 3 true).set 4 true).length:Int))&&(decide (5<(((((c.set 0 true).set 1 true).set 2 true).set 3 true).set 4 true).length)&&true)))))))))))))&&(decide ((((((a.set 0 (aQ (aH kd 0) d)).set 1 (aQ (aH kd 1) d)).set 2 (aQ (aH kd 2) d)).set 3 (aQ (aH kd 3) d)).set 4 (aQ (aH kd 4) d)).length=((((((a.set 0 (aQ (aH kd 0) d)).set 1 (aQ (aH kd 1) d)).set 2 (aQ (aH kd 2) d)).set 3 (aQ (aH kd 3) d)).set 4 (aQ (aH kd 4) d)).set 5 (aQ (aH kd 5) d)).length)&&(decide ((((((b.set 0 vs).set 1 vs).set 2 vs).set 3 vs).set 4 vs).length=((((((b.set 0 vs).set 1 vs).set 2 vs).set 3 vs).set 4 vs).set 5 vs).length)&&(decide ((((((c.set 0 true).set 1 true).set 2 true).set 3 true).set 4 true).length=((((((c.set 0 true).set 1 true).set 2 true).set 3 true).set 4 true).set 5 true).length)&&(decide (d.length=d.length)&&((decide (((((((a.set 0 (aQ (aH kd 0) d)).set 1 (aQ (aH kd 1) d)).set 2 (aQ (aH kd 2) d)).set 3 (aQ (aH kd 3) d)).set 4 (aQ (aH kd 4) d)).set 5 (aQ (aH kd 5) d)).length≤274877906944)&&(decide (((((((b.set 0 vs).set 1 vs).set 2 vs).set 3 vs).set 4 vs).set 5 vs).length≤274877906944)&&(decide (((((((c.set 0 true).set 1 true).set 2 true).set 3 true).set 4 true).set 5 true).length≤274877906944)&&(decide (d.length≤274877906944)&&(bet kd 1 2&&(decide (d.length=4)&&(a7 d&&(decide (6<(↑((((((a.set 0 (aQ (aH kd 0) d)).set 1 (aQ (aH kd 1) d)).set 2 (aQ (aH kd 2) d)).set 3 (aQ (aH kd 3) d)).set 4 (aQ (aH kd 4) d)).set 5 (aQ (aH kd 5) d)).length:Int))&&(decide (6<((((((a.set 0 (aQ (aH kd 0) d)).set 1 (aQ (aH kd 1) d)).set 2 (aQ (aH kd 2) d)).set 3 (aQ (aH kd 3) d)).set 4 (aQ (aH kd 4) d)).set 5 (aQ (aH kd 5) d)).length)&&(decide (6<(↑((((((b.set 0 vs).set 1 vs).set 2 vs).set 3 vs).set 4 vs).set 5 vs).length:Int))&&(decide (6<((((((b.set 0 vs).set 1 vs).set 2 vs).set 3 vs).set 4 vs).set 5 vs).length)&&(decide (6<(↑((((((c.set 0 true).set 1 true).set 2 true).set 3 true).set 4 true).set 5 true).length:Int))&&(decide (6<((((((c.set 0 true).set 1 true).set 2 true).set 3 true).set 4 true).set 5 true).length)&&true)))))))))))))&&(decide (((((((a.set 0 (aQ (aH kd 0) d)).set 1 (aQ (aH kd 1) d)).set 2 (aQ (aH kd 2) d)).set 3 (aQ (aH kd 3) d)).set 4 (aQ (aH kd 4) d)).set 5 (aQ (aH kd 5) d)).length=(((((((a.set 0 (aQ (aH kd 0) d)).set 1 (aQ (aH kd 1) d)).set 2 (aQ (aH kd 2) d)).set 3 (aQ (aH kd 3) d)).set 4 (aQ (aH kd 4) d)).set 5 (aQ (aH kd 5) d)).set 6 (aQ (aH kd 6) d)).length)&&(decide (((((((b.set 0 vs).set 1 vs).set 2 vs).set 3 vs).set 4 vs).set 5 vs).length=(((((((b.set 0 vs).set 1 vs).set 2 vs).set 3 vs).set 4 vs).set 5 vs).set 6 vs).length)&&(decide (((((((c.set 0 true).set 1 true).set 2 true).set 3 true).set 4 true).set 5 true).length=(((((((c.set 0 true).set 1 true).set 2 true).set 3 true).set 4 true).set 5 true).set 6 true).length)&&(decide (d.length=d.length)&&((decide ((((((((a.set 0 (aQ (aH kd 0) d)).set 1 (aQ (aH kd 1) d)).set 2 (aQ (aH kd 2) d)).set 3 (aQ (aH kd 3) d)).set 4 (aQ (aH kd 4) d)).set 5 (aQ (aH kd 5) d)).set 6 (aQ (aH kd 6) d)).length≤274877906944)&&(decide ((((((((b.set 0 vs).set 1 vs).set 2 vs).set 3 vs).set 4 vs).set 5 vs).set 6 vs).length≤274877906944)&&(decide ((((((((c.set 0 true).set 1 true).set 2 true).set 3 true).set 4 true).set 5 true).set 6 true).length≤274877906944)&&(decide (d.length≤274877906944)&&(bet kd 1 2&&(decide (d.length=4)&&(a7 d&&(decide (7<(↑(((((((a.set 0 (aQ (aH kd 0) d)).set 1 (aQ (aH kd 1) d)).set 2 (aQ (aH kd 2) d)).set 3 (aQ (aH kd 3) d)).set 4 (aQ (aH kd 4) d)).set 5 (aQ (aH kd 5) d)).set 6 (aQ (aH kd 6) d)).length:Int))&&(decide (7<(((((((a.set 0 (aQ (aH kd 0) d)).set 1 (aQ (aH kd 1) d)).set 2 (aQ (aH kd 2) d)).set 3 (aQ (aH kd 3) d)).set 4 (aQ (aH kd 4) d)).set 5 (aQ (aH kd 5) d)).set 6 (aQ (aH kd 6) d)).length)&&(decide (7<(↑(((((((b.set 0 vs).set 1 vs).set 2 vs).set 3 vs).set 4 vs).set 5 vs).set 6 vs).length:Int))&&(decide (7<(((((((b.set 0 vs).set 1 vs).set 2 vs).set 3 vs).set 4 vs).set 5 vs).set 6 vs).length)&&(decide (7<(↑(((((((c.set 0 true).set 1 true).set 2 true).set 3 true).set 4 true).set 5 true).set 6 true).length:Int))&&(decide (7<(((((((c.set 0 true).set 1 true).set 2 true).set 3 true).set 4 true).set 5 true).set 6 true).length)&&true)))))))))))))&&(decide ((((((((a.set 0 (aQ (aH kd 0) d)).set 1 (aQ (aH kd 1) d)).set 2 (aQ (aH kd 2) d)).set 3 (aQ (aH kd 3) d)).set 4 (aQ (aH kd 4) d)).set 5 (aQ (aH kd 5) d)).set 6 (aQ (aH kd 6) d)).length=((((((((a.set 0 (aQ (aH kd 0) d)).set 1 (aQ (aH kd 1) d)).set 2 (aQ (aH kd 2) d)).set 3 (aQ (aH kd 3) d)).set 4 (aQ (aH kd 4) d)).set 5 (aQ (aH kd 5) d)).set 6 (aQ (aH kd 6) d)).set 7 (aQ (aH kd 7) d)).length)&&(decide ((((((((b.set 0 vs).set 1 vs).set 2 vs).set 3 vs).set 4 vs).set 5 vs).set 6 vs).length=((((((((b.set 0 vs).set 1 vs).set 2 vs).set 3 vs).set 4 vs).set 5 vs).set 6 vs).set 7 vs).length)&&(decide ((((((((c.set 0 true).set 1 true).set 2 true).set 3 true).set 4 true).set 5 true).set 6 true).length=((((((((c.set 0 true).set 1 true).set 2 true).set 3 true).set 4 true).set 5 true).set 6 true).set 7 true).length)&&(decide (d.length=d.length)&&((decide (((((((((a.set 0 (aQ (aH kd 0) d)).set 1 (aQ (aH kd 1) d)).set 2 (aQ (aH kd 2) d)).set 3 (aQ (aH kd 3) d)).set 4 (aQ (aH kd 4) d)).set 5 (aQ (aH kd 5) d)).set 6 (aQ (aH kd 6) d)).set 7 (aQ (aH kd 7) d)).length≤274877906944)&&(decide (((((((((b.set 0 vs).set 1 vs).set 2 vs).set 3 vs).set 4 vs).set 5 vs).set 6 vs).set 7 vs).length≤274877906944)&&(decide (((((((((c.set 0 true).set 1 true).set 2 true).set 3 true).set 4 true).set 5 true).set 6 true).set 7 true).length≤274877906944)&&(decide (d.length≤274877906944)&&true))))&&true))))))))))))))))))))))))))))))))))))))))))))),[]⟩:=by kernel_rfl
end
section
theorem kU {d:List Int} (h:aE d 4=true):a7 d=true∧d.length=4:=by
 simp only[aE,Bool.and_eq_true,rpS,beq_iff_eq]at h
 exact⟨h.1,by omega⟩
theorem GK {k:Int} {a b:List Int} {c:List Bool} {on:Bool} {kd:Int} {d:List Int} {vs:Int} (h:bC k a b c on kd d vs=true):bet k 1 2=true∧a7 a=true∧ ∀i,i<8→0≤b.getD i 0∧b.getD i 0≤99:=by
 cases on with
 |false=>
  have K:=fA.1 h
  exact⟨K.s.hk,K.s.hf,fun i hi=>K.s.bnd hi⟩
 |true=>
  have K:=iM.1 h
  have hv:=aX.1 K.hvs
  refine⟨K.s.hk,K.fok,fun i hi=> ?_⟩
  by_cases e:b.getD i 0=vs
  ·omega
  ·have:=K.s.bnd hi
   rw[(mI K.ha K.hb K.hc hi).2.1,if_neg e]at this
   exact this
theorem DV {b:List Int} {n:Int} (h0:0≤n) (h: ∀i,i<b.length→b.getD i 0≤n):mxL b≤n:=by
 rcases(eZ b).2 with e|⟨i,hi,e⟩
 ·omega
 ·have:=h i hi;omega
theorem T0 {b:List Int} {n x:Int} {j:Nat} (h0:0≤n) (hx:x≤n) (h: ∀i,i<b.length→b.getD i 0≤n):mxL (b.set j x)≤n:=DV h0 fun i hi=>by
 rw[List.length_set]at hi
 rw[aU]
 split
 ·exact hx
 ·exact h i hi
theorem d8 (l:List Bool) (a b:Nat) (x:Bool):(l.set a x).getD b false=if a=b∧a<l.length then x else l.getD b false:=by
 rw[List.getD_eq_getElem?_getD,List.getElem?_set]
 by_cases h:a=b
 ·subst h
  by_cases h2:a<l.length
  ·simp[h2]
  ·simp[h2,List.getD_eq_getElem?_getD,List.getElem?_eq_none (Nat.le_of_not_lt h2)]
 ·simp[h,List.getD_eq_getElem?_getD]
theorem Sok.drop {k:Int} {a b:List Int} {c:List Bool} (h:Sok k a b c) (x:Nat):Sok k (a.set x 0) (b.set x 0) (c.set x false):=by
 refine⟨h.hk,by rw[List.length_set];exact h.ha,by rw[List.length_set];exact h.hb,by rw[List.length_set];exact h.hc,cU h.hf rfl,fun i hi hc=> ?_,fun i hi hc=> ?_⟩
 ·rw[d8]at hc
  have hne: ¬(x=i∧x<c.length):=fun e=>by rw[if_pos e]at hc;cases hc
  rw[if_neg hne]at hc
  have hxi:x≠i:=fun e=>hne ⟨e,by have:=h.hc;omega⟩
  obtain⟨t1,t2⟩:=h.th i hi hc
  have e:(b.set x 0).getD i 0=b.getD i 0:=by rw[aU,if_neg (fun h=>hxi h.1)]
  rw[e]
  refine⟨t1, ?_⟩
  have F:=(k8 (by rw[bP];exact h.hc)).1 t2
  refine gA h.hk (by rw[bP,List.length_set];exact h.hc) (d:=dN k a (flg (aR b c (b.getD i 0)))) fun j hj hm=> ?_
  rw[eF _ _ _ _ (by rw[List.length_set,h.hc];exact hj),d8,Bool.and_eq_true]at hm
  have hxj:x≠j:=fun e=>by
   have:=hm.1
   rw[if_pos ⟨e,by have:=h.hc;omega⟩]at this;cases this
  rw[if_neg (fun h=>hxj h.1),aU,if_neg (fun h=>hxj h.1)]at hm
  rw[aU,if_neg (fun h=>hxj h.1)]
  exact F j hj (by rw[eF _ _ _ _ (by rw[h.hc];exact hj),hm.1,hm.2];rfl)
 ·rw[aU,aU]
  by_cases e:x=i
  ·rw[if_pos ⟨e,by have:=h.ha;omega⟩,if_pos ⟨e,by have:=h.hb;omega⟩];exact⟨rfl,rfl⟩
  ·rw[if_neg (fun h=>e h.1),if_neg (fun h=>e h.1)]
   rw[d8,if_neg (fun h=>e h.1)]at hc
   exact h.no i hi hc
def AN:aN:=fun args h=>
 match args,h with
 |[.agg [.int .i64 k,.view _ (.ints .i64 a) n1 1 _,.view _ (.ints .i64 b) n2 1 _,.view _ (.bools c) n3 1 _,.bool on,.int .i64 kd,.view _ (.ints .i64 d) n4 1 _,.int .i64 vs],.c (.int .i64 x),.c (.view _ (.ints .i64 e) n5 1 _)],[]=>
  some (.tup [.agg (d6 ⟨k,a,b,c,on,kd,d,vs⟩ x e).cells,.c (.bool (gN ⟨k,a,b,c,on,kd,d,vs⟩ x e))],[.live (.ints .i64 (d6 ⟨k,a,b,c,on,kd,d,vs⟩ x e).a),.live (.ints .i64 (d6 ⟨k,a,b,c,on,kd,d,vs⟩ x e).b),.live (.bools (d6 ⟨k,a,b,c,on,kd,d,vs⟩ x e).c),.live (.ints .i64 (d6 ⟨k,a,b,c,on,kd,d,vs⟩ x e).d)],[decide (a.length≤274877906944),decide (d.length≤274877906944),decide (e.length≤274877906944)])
 |_,_=>none
theorem m35:aT Tryz.prog 17 AN:=by
 intro args h res h' o hnorm he ho
 unfold AN at he
 split at he
 case h_2=>cases he
 rename_i k nl1 a n1 cap1 nl2 b n2 cap2 nl3 c n3 cap3 on kd nl4 d n4 cap4 vs x nl5 e n5 cap5
 simp only[Option.some.injEq,Prod.mk.injEq]at he
 obtain⟨rfl,rfl,rfl⟩:=he
 simp only[List.mem_cons,List.not_mem_nil,or_false,forall_eq_or_imp,forall_eq,decide_eq_true_eq]at ho
 obtain⟨o1,o2,o3⟩:=ho
 simp only[bE,AV.norm,bF,aF.norm,Con.size,List.cons.injEq,AV.c.injEq,AV.agg.injEq,aF.view.injEq,aL,true_and,and_true]at hnorm
 obtain⟨⟨⟨rfl,rfl,rfl⟩,⟨rfl,rfl,rfl⟩,⟨rfl,rfl,rfl⟩,rfl,rfl,rfl⟩,rfl,rfl,rfl⟩:=hnorm
 unfold d6 gN PK.ok
 dsimp only
 cases h:bC k a b c on kd d vs with
 |false=>exact gJ (mo t62 (a0Z k a b c on kd d vs x e) (by simp only[h,o1,o2,bS,rpS]))
 |true=>
  obtain⟨ha,hb,hc⟩:=dH h
  cases hx:bet x 1 2 with
  |false=>exact gJ (mo t62 (a10 k a b c on kd d vs x e) (by simp only[h,hx,o1,o2,bS,rpS]))
  |true=>
   have hve:=oE e
   cases he:aE e 4 with
   |false=>exact gJ (mo t62 (a11 k a b c on kd d vs x e) (by simp only[h,hx,hve,he,o1,o2,o3,bS,rpS]))
   |true=>
    cases ho:on with
    |true=>
     subst ho
     exact mo t62 (a12 k a b c true kd d vs x e) (by simp only[h,hx,hve,he,o2,o3,ha,hb,hc,bS,rpS];simp)
    |false=>
     subst ho
     have K:=fA.1 h
     have hm:=K.s.mx
     rw[K.s.top]
     cases hT:mxL b==99 with
     |true=>
      have hT':mxL b≥99:=by have:=beq_iff_eq.1 hT;omega
      exact mo t62 (a13 k a b c false kd d vs x e) (by simp only[h,hx,hve,he,hT',o2,o3,ha,hb,hc,bS,rpS];simp)
     |false=>
      have hT': ¬mxL b≥99:=fun h=>by
       have:mxL b=99:=by omega
       rw[this]at hT;cases hT
      have e6:=a14 k a b c false kd d vs x e
      rw[aB (by omega) (by omega),Nat.zero_add]at e6
      exact mo t62 e6 (by simp only[h,hx,hve,he,hT',o2,o3,ha,hb,hc,bS,rpS];simp[o3])
def oL:aN:=fun args h=>
 match args,h with
 |[.agg [.int .i64 k,.view _ (.ints .i64 a) n1 1 _,.view _ (.ints .i64 b) n2 1 _,.view _ (.bools c) n3 1 _,.bool on,.int .i64 kd,.view _ (.ints .i64 d) n4 1 _,.int .i64 vs]],[]=>
  some (.c (.sl 0 0 (bif on then d else l2D k a b c).length 1 none),[.live (.ints .i64 (bif on then d else l2D k a b c))],[decide (d.length≤274877906944),on||bet k 1 2&&(decide (a.length=8)&&(a7 a&&(decide (b.length=8)&&(decide (c.length=8)&&decide (mxL b≤1000)))))])
 |_,_=>none
theorem m93:aT Tryz.prog 137 oL:=by
 intro args h res h' o hnorm he ho
 unfold oL at he
 split at he
 case h_2=>cases he
 rename_i k nl1 a n1 cap1 nl2 b n2 cap2 nl3 c n3 cap3 on kd nl4 d n4 cap4 vs
 simp only[Option.some.injEq,Prod.mk.injEq]at he
 obtain⟨rfl,rfl,rfl⟩:=he
 simp only[List.mem_cons,List.not_mem_nil,or_false,forall_eq_or_imp,forall_eq,decide_eq_true_eq]at ho
 obtain⟨o1,o2⟩:=ho
 simp only[bE,AV.norm,bF,aF.norm,Con.size,List.cons.injEq,AV.c.injEq,AV.agg.injEq,aF.view.injEq,aL,true_and,and_true]at hnorm
 obtain⟨⟨rfl,rfl,rfl⟩,⟨rfl,rfl,rfl⟩,⟨rfl,rfl,rfl⟩,rfl,rfl,rfl⟩:=hnorm
 cases ho:on with
 |true=>
  have e:=a2U k a b c true kd d vs
  rw[Nat.zero_add]at e
  exact mo t62 e (by simp[o1])
 |false=>
  rw[ho,Bool.false_or]at o2
  simp only[Bool.and_eq_true,rpS]at o2
  exact mo t62 (a2V k a b c false kd d vs) (by simp[o2])
def wN:aN:=fun args h=>
 match args,h with
 |[.agg [.int .i64 k,.view _ (.ints .i64 a) n1 1 _,.view _ (.ints .i64 b) n2 1 _,.view _ (.bools c) n3 1 _,.bool on,.int .i64 kd,.view _ (.ints .i64 d) n4 1 _,.int .i64 vs]],[]=>
  some (.agg (cF ⟨k,a,b,c,on,kd,d,vs⟩).cells,[.live (.ints .i64 (cF ⟨k,a,b,c,on,kd,d,vs⟩).a),.live (.ints .i64 (cF ⟨k,a,b,c,on,kd,d,vs⟩).b),.live (.bools (cF ⟨k,a,b,c,on,kd,d,vs⟩).c),.live (.ints .i64 (cF ⟨k,a,b,c,on,kd,d,vs⟩).d)],[decide (a.length≤274877906944),decide (d.length≤274877906944)])
 |_,_=>none
theorem m18:aT Tryz.prog 64 wN:=by
 intro args h res h' o hnorm he ho
 unfold wN at he
 split at he
 case h_2=>cases he
 rename_i k nl1 a n1 cap1 nl2 b n2 cap2 nl3 c n3 cap3 on kd nl4 d n4 cap4 vs
 simp only[Option.some.injEq,Prod.mk.injEq]at he
 obtain⟨rfl,rfl,rfl⟩:=he
 simp only[List.mem_cons,List.not_mem_nil,or_false,forall_eq_or_imp,forall_eq,decide_eq_true_eq]at ho
 obtain⟨o1,o2⟩:=ho
 simp only[bE,AV.norm,bF,aF.norm,Con.size,List.cons.injEq,AV.c.injEq,AV.agg.injEq,aF.view.injEq,aL,true_and,and_true]at hnorm
 obtain⟨⟨rfl,rfl,rfl⟩,⟨rfl,rfl,rfl⟩,⟨rfl,rfl,rfl⟩,rfl,rfl,rfl⟩:=hnorm
 unfold cF PK.ok
 dsimp only
 cases h:bC k a b c on kd d vs with
 |false=>exact w7 (h:=[]) (mo t62 (a0J k a b c on kd d vs) (by simp only[h,o1,o2];rfl))
 |true=>
  obtain⟨ha,hb,hc⟩:=dH h
  cases ho:on with
  |false=>subst ho;exact mo t62 (a0K k a b c false kd d vs) (by simp only[h,o2,ha,hb,hc,bS,rpS];simp)
  |true=>
   obtain⟨h1,h2,h3⟩:=CC h ho
   obtain⟨hf,hd4⟩:=kU h1
   subst ho
   have e:=a0L k a b c true kd d vs
   rw[F9 ha,F9 hb,F9 hc]at e
   have mm:=mo (f:=64) t62 e (by simp only[h,h1,h2,hf,hd4,List.length_set,ha,hb,hc,bS,rpS];simp)
   have ec:cdL kd d=hI kd d:=by rw[sC h2,j4 h1]
   unfold cdL at ec
   rw[ec]at mm
   rw[ha,hb,hc]at mm⊢
   exact mm
def wK:aN:=fun args h=>
 match args,h with
 |[.agg [.int .i64 k,.view _ (.ints .i64 a) n1 1 _,.view _ (.ints .i64 b) n2 1 _,.view _ (.bools c) n3 1 _,.bool on,.int .i64 kd,.view _ (.ints .i64 d) n4 1 _,.int .i64 vs],.c (.int .i64 x)],[]=>
  some (.agg (gC ⟨k,a,b,c,on,kd,d,vs⟩ x).cells,[.live (.ints .i64 (gC ⟨k,a,b,c,on,kd,d,vs⟩ x).a),.live (.ints .i64 (gC ⟨k,a,b,c,on,kd,d,vs⟩ x).b),.live (.bools (gC ⟨k,a,b,c,on,kd,d,vs⟩ x).c),.live (.ints .i64 (gC ⟨k,a,b,c,on,kd,d,vs⟩ x).d)],[decide (a.length≤274877906944),decide (d.length≤274877906944)])
 |_,_=>none
theorem m97:aT Tryz.prog 13 wK:=by
 intro args h res h' o hnorm he ho
 unfold wK at he
 split at he
 case h_2=>cases he
 rename_i k nl1 a n1 cap1 nl2 b n2 cap2 nl3 c n3 cap3 on kd nl4 d n4 cap4 vs x
 simp only[Option.some.injEq,Prod.mk.injEq]at he
 obtain⟨rfl,rfl,rfl⟩:=he
 simp only[List.mem_cons,List.not_mem_nil,or_false,forall_eq_or_imp,forall_eq,decide_eq_true_eq]at ho
 obtain⟨o1,o2⟩:=ho
 simp only[bE,AV.norm,bF,aF.norm,Con.size,List.cons.injEq,AV.c.injEq,AV.agg.injEq,aF.view.injEq,aL,true_and,and_true]at hnorm
 obtain⟨⟨rfl,rfl,rfl⟩,⟨rfl,rfl,rfl⟩,⟨rfl,rfl,rfl⟩,rfl,rfl,rfl⟩:=hnorm
 unfold gC mX PK.ok
 dsimp only
 cases h:bC k a b c on kd d vs with
 |false=>exact w7 (h:=[]) (mo t62 (a2Z k a b c on kd d vs x) (by simp only[h,o1,o2];rfl))
 |true=>
  obtain⟨ha,hb,hc⟩:=dH h
  obtain⟨hk,hf,hbb⟩:=GK h
  cases hx:bet x 0 7 with
  |false=>exact w7 (h:=[]) (mo t62 (a30 k a b c on kd d vs x) (by simp only[h,hx,o1,o2,bS,rpS]))
  |true=>
   have hx':=aX.1 hx
   have hmx:mxL (b.set x.toNat 0)≤99:=T0 (by omega) (by omega) fun i hi=>(hbb i (by omega)).2
   have hfs:a7 (a.set x.toNat 0)=true:=cU hf rfl
   have e1:(a.set x.toNat 0).length=a.length:=List.length_set
   have e2:(b.set x.toNat 0).length=b.length:=List.length_set
   have e3:(c.set x.toNat false).length=c.length:=List.length_set
   cases ho:on with
   |true=>
    subst ho
    rw[Bool.not_true,Bool.and_false]
    have mm:=mo (f:=13) t62 (a33 k a b c true kd d vs x) (by simp only[h,hx,hk,hfs,e1,e2,e3,ha,hb,hc,bS,rpS];omega)
    show bA _ _ _ _ (.agg [.int .i64 k,.sl 0 0 (a.set x.toNat 0).length 1 none,.sl 1 0 (b.set x.toNat 0).length 1 none,.sl 2 0 (c.set x.toNat false).length 1 none,.bool true,.int .i64 kd,.sl 3 0 d.length 1 none,.int .i64 vs]) _
    rw[e1,e2,e3]
    exact mm
   |false=>
    subst ho
    have K:=fA.1 h
    have hr:=(K.s.drop x.toNat).rd.2.2
    rw[Bool.not_false,Bool.and_true,←hr]
    cases hq:l2B k (a.set x.toNat 0) (b.set x.toNat 0) (c.set x.toNat false)with
    |false=>exact mo t62 (a31 k a b c false kd d vs x) (by simp only[h,hx,hq,hk,hfs,e1,e2,e3,ha,hb,hc,bS,rpS];omega)
    |true=>
     have mm:=mo (f:=13) t62 (a32 k a b c false kd d vs x) (by simp only[h,hx,hq,hk,hfs,e1,e2,e3,ha,hb,hc,bS,rpS];omega)
     show bA _ _ _ _ (.agg [.int .i64 k,.sl 0 0 (a.set x.toNat 0).length 1 none,.sl 1 0 (b.set x.toNat 0).length 1 none,.sl 2 0 (c.set x.toNat false).length 1 none,.bool false,.int .i64 kd,.sl 3 0 d.length 1 none,.int .i64 vs]) _
     rw[e1,e2,e3]
     exact mm
def B4:aN:=fun args h=>
 match args,h with
 |[.agg [.int .i64 k,.view _ (.ints .i64 a) n1 1 _,.view _ (.ints .i64 b) n2 1 _,.view _ (.bools c) n3 1 _,.bool on,.int .i64 kd,.view _ (.ints .i64 d) n4 1 _,.int .i64 vs],.c (.int .i64 x)],[]=>
  some (.agg (gC ⟨k,a,b,c,on,kd,d,vs⟩ x).cells,[.live (.ints .i64 (gC ⟨k,a,b,c,on,kd,d,vs⟩ x).a),.live (.ints .i64 (gC ⟨k,a,b,c,on,kd,d,vs⟩ x).b),.live (.bools (gC ⟨k,a,b,c,on,kd,d,vs⟩ x).c),.live (.ints .i64 (gC ⟨k,a,b,c,on,kd,d,vs⟩ x).d)],[decide (d.length≤274877906944)])
 |_,_=>none
theorem m45:aT Tryz.prog 11 B4:=by
 intro args h res h' o hnorm he ho
 unfold B4 at he
 split at he
 case h_2=>cases he
 rename_i k nl1 a n1 cap1 nl2 b n2 cap2 nl3 c n3 cap3 on kd nl4 d n4 cap4 vs x
 simp only[Option.some.injEq,Prod.mk.injEq]at he
 obtain⟨rfl,rfl,rfl⟩:=he
 simp only[List.mem_cons,List.not_mem_nil,or_false,forall_eq_or_imp,forall_eq,decide_eq_true_eq]at ho
 have o2:=ho
 simp only[bE,AV.norm,bF,aF.norm,Con.size,List.cons.injEq,AV.c.injEq,AV.agg.injEq,aF.view.injEq,aL,true_and,and_true]at hnorm
 obtain⟨⟨rfl,rfl,rfl⟩,⟨rfl,rfl,rfl⟩,⟨rfl,rfl,rfl⟩,rfl,rfl,rfl⟩:=hnorm
 unfold gC mX PK.ok
 dsimp only
 cases h:bC k a b c on kd d vs with
 |false=>exact w7 (h:=[]) (mo t62 (a1O k a b c on kd d vs x) (by simp only[h,o2];rfl))
 |true=>
  obtain⟨ha,hb,hc⟩:=dH h
  obtain⟨hk,hf,hbb⟩:=GK h
  cases hx:bet x 0 7 with
  |false=>exact w7 (h:=[]) (mo t62 (a1P k a b c on kd d vs x) (by simp only[h,hx,o2,bS,rpS]))
  |true=>
   have hx':=aX.1 hx
   have hfs:a7 (a.set x.toNat 0)=true:=cU hf rfl
   have e1:(a.set x.toNat 0).length=a.length:=List.length_set
   have e2:(b.set x.toNat 0).length=b.length:=List.length_set
   have e3:(c.set x.toNat false).length=c.length:=List.length_set
   cases hq:rdS k (a.set x.toNat 0) (b.set x.toNat 0) (c.set x.toNat false)with
   |false=>
    cases ho:on with
    |true=>
     subst ho
     have mm:=mo (f:=11) t62 (a1R k a b c true kd d vs x) (by simp only[h,hx,hq,hk,hfs,e1,e2,e3,ha,hb,hc,bS,rpS];omega)
     show bA _ _ _ _ (.agg [.int .i64 k,.sl 0 0 (a.set x.toNat 0).length 1 none,.sl 1 0 (b.set x.toNat 0).length 1 none,.sl 2 0 (c.set x.toNat false).length 1 none,.bool true,.int .i64 kd,.sl 3 0 d.length 1 none,.int .i64 vs]) _
     rw[e1,e2,e3]
     exact mm
    |false=>
     subst ho
     exact mo t62 (a1Q k a b c false kd d vs x) (by simp only[h,hx,hq,hk,hfs,e1,e2,e3,ha,hb,hc,bS,rpS];omega)
   |true=>
    have mm:=mo (f:=11) t62 (a1S k a b c on kd d vs x) (by simp only[h,hx,hq,hk,hfs,e1,e2,e3,ha,hb,hc,bS,rpS];omega)
    show bA _ _ _ _ (.agg [.int .i64 k,.sl 0 0 (a.set x.toNat 0).length 1 none,.sl 1 0 (b.set x.toNat 0).length 1 none,.sl 2 0 (c.set x.toNat false).length 1 none,.bool on,.int .i64 kd,.sl 3 0 d.length 1 none,.int .i64 vs]) _
    rw[e1,e2,e3]
    exact mm
end
section
noncomputable def T63:List bD:=[⟨17,[],nm AN⟩,⟨137,[],nm oL⟩,⟨64,[],nm wN⟩,⟨13,[],nm wK⟩,⟨11,[],nm B4⟩]++T62
theorem e63:a6 Tryz.prog T63:=by
 refine a6.append ?_ e62
 intro e he
 simp only[List.mem_cons,List.not_mem_nil,or_false]at he
 rcases he with rfl|rfl|rfl|rfl|rfl
 ·exact m35.ok
 ·exact m93.ok
 ·exact m18.ok
 ·exact m97.ok
 ·exact m45.ok
theorem t63:bJ Tryz.prog (a9 T63):=aM e63
theorem a1E (k:Int) (a b:List Int) (c:List Bool) (on:Bool) (kd:Int) (d:List Int) (vs:Int) (x:Int):aD tt (a9 T63) ([]) 100 Tryz.f86 [.agg [.int .i64 k,.view none (.ints .i64 a) a.length 1 none,.view none (.ints .i64 b) b.length 1 none,.view none (.bools c) c.length 1 none,.bool on,.int .i64 kd,.view none (.ints .i64 d) d.length 1 none,.int .i64 vs],.c (.int .i64 x)] [] [(0,true)]=
  some ⟨.tup [.agg [.int .i64 0,.nils,.nils,.nils,.bool false,.int .i64 0,.nils,.int .i64 0],.c (.bool false)],[],(decide (a.length≤274877906944)&&(decide (d.length≤274877906944)&&(rp3 (!bC k a b c on kd d vs) ((!bC k a b c on kd d vs)&&true)))),[]⟩:=by kernel_rfl
theorem a1F (k:Int) (a b:List Int) (c:List Bool) (on:Bool) (kd:Int) (d:List Int) (vs:Int) (x:Int):aD tt (a9 T63) ([]) 100 Tryz.f86 [.agg [.int .i64 k,.view none (.ints .i64 a) a.length 1 none,.view none (.ints .i64 b) b.length 1 none,.view none (.bools c) c.length 1 none,.bool on,.int .i64 kd,.view none (.ints .i64 d) d.length 1 none,.int .i64 vs],.c (.int .i64 x)] [] [(0,false),(0,true)]=
  some ⟨.tup [.agg [.int .i64 0,.nils,.nils,.nils,.bool false,.int .i64 0,.nils,.int .i64 0],.c (.bool false)],[],(decide (a.length≤274877906944)&&(decide (d.length≤274877906944)&&(rp3 (!!bC k a b c on kd d vs) ((bif !bC k a b c on kd d vs then true else !bet x 1 2)&&true)))),[]⟩:=by kernel_rfl
theorem a1G (k:Int) (a b:List Int) (c:List Bool) (on:Bool) (kd:Int) (d:List Int) (vs:Int) (x:Int):aD tt (a9 T63) ([]) 100 Tryz.f86 [.agg [.int .i64 k,.view none (.ints .i64 a) a.length 1 none,.view none (.ints .i64 b) b.length 1 none,.view none (.bools c) c.length 1 none,.bool on,.int .i64 kd,.view none (.ints .i64 d) d.length 1 none,.int .i64 vs],.c (.int .i64 x)] [] [(0,false),(0,false),(0,true)]=
  some ⟨.tup [.agg [.int .i64 k,.sl 0 0 a.length 1 none,.sl 1 0 b.length 1 none,.sl 2 0 c.length 1 none,.bool on,.int .i64 kd,.sl 3 0 d.length 1 none,.int .i64 vs],.c (.bool false)],[.live (.ints .i64 a),.live (.ints .i64 b),.live (.bools c),.live (.ints .i64 d)],(decide (a.length≤274877906944)&&(decide (d.length≤274877906944)&&(rp3 (!!bC k a b c on kd d vs) ((!bif !bC k a b c on kd d vs then true else !bet x 1 2)&&((k==x)&&(decide (a.length≤274877906944)&&(decide (b.length≤274877906944)&&(decide (c.length≤274877906944)&&((decide (d.length≤274877906944))&&true))))))))),[]⟩:=by kernel_rfl
theorem a1H (k:Int) (a b:List Int) (c:List Bool) (on:Bool) (kd:Int) (d:List Int) (vs:Int) (x:Int):aD tt (a9 T63) ([]) 100 Tryz.f86 [.agg [.int .i64 k,.view none (.ints .i64 a) a.length 1 none,.view none (.ints .i64 b) b.length 1 none,.view none (.bools c) c.length 1 none,.bool on,.int .i64 kd,.view none (.ints .i64 d) d.length 1 none,.int .i64 vs],.c (.int .i64 x)] [] [(0,false),(0,false),(0,false)]=
  some ⟨.tup [.agg [.int .i64 (d6 {k:=k,a:=a,b:=b,c:=c,on:=on,kd:=kd,d:=d,vs:=vs} x (bif on then d else l2D k a b c)).k,.sl 0 0 (d6 {k:=k,a:=a,b:=b,c:=c,on:=on,kd:=kd,d:=d,vs:=vs} x (bif on then d else l2D k a b c)).a.length 1 none,.sl 1 0 (d6 {k:=k,a:=a,b:=b,c:=c,on:=on,kd:=kd,d:=d,vs:=vs} x (bif on then d else l2D k a b c)).b.length 1 none,.sl 2 0 (d6 {k:=k,a:=a,b:=b,c:=c,on:=on,kd:=kd,d:=d,vs:=vs} x (bif on then d else l2D k a b c)).c.length 1 none,.bool (d6 {k:=k,a:=a,b:=b,c:=c,on:=on,kd:=kd,d:=d,vs:=vs} x (bif on then d else l2D k a b c)).on,.int .i64 (d6 {k:=k,a:=a,b:=b,c:=c,on:=on,kd:=kd,d:=d,vs:=vs} x (bif on then d else l2D k a b c)).kd,.sl 3 0 (d6 {k:=k,a:=a,b:=b,c:=c,on:=on,kd:=kd,d:=d,vs:=vs} x (bif on then d else l2D k a b c)).d.length 1 none,.int .i64 (d6 {k:=k,a:=a,b:=b,c:=c,on:=on,kd:=kd,d:=d,vs:=vs} x (bif on then d else l2D k a b c)).vs],.c (.bool (gN {k:=k,a:=a,b:=b,c:=c,on:=on,kd:=kd,d:=d,vs:=vs} x (bif on then d else l2D k a b c)))],[.live (.ints .i64 (d6 {k:=k,a:=a,b:=b,c:=c,on:=on,kd:=kd,d:=d,vs:=vs} x (bif on then d else l2D k a b c)).a),.live (.ints .i64 (d6 {k:=k,a:=a,b:=b,c:=c,on:=on,kd:=kd,d:=d,vs:=vs} x (bif on then d else l2D k a b c)).b),.live (.bools (d6 {k:=k,a:=a,b:=b,c:=c,on:=on,kd:=kd,d:=d,vs:=vs} x (bif on then d else l2D k a b c)).c),.live (.ints .i64 (d6 {k:=k,a:=a,b:=b,c:=c,on:=on,kd:=kd,d:=d,vs:=vs} x (bif on then d else l2D k a b c)).d)],(decide (a.length≤274877906944)&&(decide (d.length≤274877906944)&&(rp3 (!!bC k a b c on kd d vs) ((!bif !bC k a b c on kd d vs then true else !bet x 1 2)&&((!k==x)&&(decide (d.length≤274877906944)&&((on||bet k 1 2&&(decide (a.length=8)&&(a7 a&&(decide (b.length=8)&&(decide (c.length=8)&&decide (mxL b≤1000))))))&&(decide ((bif on then d else l2D k a b c).length=(bif on then d else l2D k a b c).length)&&(decide (a.length≤274877906944)&&(decide (d.length≤274877906944)&&((decide ((bif on then d else l2D k a b c).length≤274877906944))&&true))))))))))),[]⟩:=by kernel_rfl
end
section
def GE:aN:=fun args h=>
 match args,h with
 |[.agg [.int .i64 k,.view _ (.ints .i64 a) n1 1 _,.view _ (.ints .i64 b) n2 1 _,.view _ (.bools c) n3 1 _,.bool on,.int .i64 kd,.view _ (.ints .i64 d) n4 1 _,.int .i64 vs],.c (.int .i64 x)],[]=>
  some (.tup [.agg (tbK ⟨k,a,b,c,on,kd,d,vs⟩ x).cells,.c (.bool (tbB ⟨k,a,b,c,on,kd,d,vs⟩ x))],[.live (.ints .i64 (tbK ⟨k,a,b,c,on,kd,d,vs⟩ x).a),.live (.ints .i64 (tbK ⟨k,a,b,c,on,kd,d,vs⟩ x).b),.live (.bools (tbK ⟨k,a,b,c,on,kd,d,vs⟩ x).c),.live (.ints .i64 (tbK ⟨k,a,b,c,on,kd,d,vs⟩ x).d)],[decide (a.length≤274877906944),decide (d.length≤274877906944)])
 |_,_=>none
theorem m41:aT Tryz.prog 86 GE:=by
 intro args h res h' o hnorm he ho
 unfold GE at he
 split at he
 case h_2=>cases he
 rename_i k nl1 a n1 cap1 nl2 b n2 cap2 nl3 c n3 cap3 on kd nl4 d n4 cap4 vs x
 simp only[Option.some.injEq,Prod.mk.injEq]at he
 obtain⟨rfl,rfl,rfl⟩:=he
 simp only[List.mem_cons,List.not_mem_nil,or_false,forall_eq_or_imp,forall_eq,decide_eq_true_eq]at ho
 obtain⟨o1,o2⟩:=ho
 simp only[bE,AV.norm,bF,aF.norm,Con.size,List.cons.injEq,AV.c.injEq,AV.agg.injEq,aF.view.injEq,aL,true_and,and_true]at hnorm
 obtain⟨⟨rfl,rfl,rfl⟩,⟨rfl,rfl,rfl⟩,⟨rfl,rfl,rfl⟩,rfl,rfl,rfl⟩:=hnorm
 unfold tbK tbB PK.ok
 dsimp only
 cases h:bC k a b c on kd d vs with
 |false=>exact gJ (mo t63 (a1E k a b c on kd d vs x) (by simp only[h,o1,o2,bS,rpS]))
 |true=>
  obtain⟨ha,hb,hc⟩:=dH h
  obtain⟨hk,hf,hbb⟩:=GK h
  cases hx:bet x 1 2 with
  |false=>exact gJ (mo t63 (a1F k a b c on kd d vs x) (by simp only[h,hx,o1,o2,bS,rpS]))
  |true=>
   cases hq:k==x with
   |true=>exact mo t63 (a1G k a b c on kd d vs x) (by simp only[h,hx,hq,o2,ha,hb,hc,bS,rpS];simp)
   |false=>
    have er:krD k a b c on kd d vs=bif on then d else l2D k a b c:=by
     unfold krD
     rw[h,cond_true]
     cases ho:on with
     |true=>rw[cond_true,cond_true]
     |false=>subst ho;rw[cond_false,cond_false,(fA.1 h).s.rd.1]
    have hl:=DR k a b c on kd d vs o2
    have hm:mxL b≤99:=DV (by omega) fun i hi=>(hbb i (by omega)).2
    have hm':mxL b≤1000:=by omega
    have e:=a1H k a b c on kd d vs x
    rw[←er]at e
    have ob:(on||bet k 1 2&&(decide (a.length=8)&&(a7 a&&(decide (b.length=8)&&(decide (c.length=8)&&decide (mxL b≤1000))))))=true:=by rw[hk,hf,ha,hb,hc,decide_eq_true hm'];simp
    exact mo t63 e (by simp only[h,hx,hq,ob,hl,o1,o2,bS,rpS])
noncomputable def T64:List bD:=[⟨86,[],nm GE⟩]++T63
theorem e64:a6 Tryz.prog T64:=by
 refine a6.append ?_ e63
 intro e he
 simp only[List.mem_cons,List.not_mem_nil,or_false]at he
 subst he;exact m41.ok
end
section
noncomputable def T65:List bD:=[]++T64
theorem e65:a6 Tryz.prog T65:=by
 refine a6.append ?_ e64
 intro e he
 cases he
theorem t65:bJ Tryz.prog (a9 T65):=aM e65
theorem a1Y (b:List Int):aD tt (a9 T65) ([]) 100 Tryz.f45 [.c (.view none (.ints .u8 b) b.length 1 none)] [] [(0,true)]=
  some ⟨.c (.ptr 0 0 0 0),[.live (.cells [.view none (.ints .u8 (List.take 2000 b)) 2000 1 none,.int .i64 0])],(decide ((↑b.length:Int)>2000)&&((decide (2000≤(↑b.length:Int)))&&true)),[]⟩:=by kernel_rfl
theorem a1Z (b:List Int):aD tt (a9 T65) ([]) 100 Tryz.f45 [.c (.view none (.ints .u8 b) b.length 1 none)] [] [(0,false)]=
  some ⟨.c (.ptr 0 0 0 0),[.live (.cells [.view none (.ints .u8 b) b.length 1 none,.int .i64 0])],((!decide ((↑b.length:Int)>2000))&&true),[]⟩:=by kernel_rfl
theorem a2J (b:List Int) (n:Nat) (p x:Int):aD tt (a9 T65) ([]) 100 Tryz.f47 [.c (.ptr 0 0 0 0),.c (.int .i64 x)] [.live (.cells [.view none (.ints .u8 b) n 1 none,.int .i64 p])] [(0,true)]=
  some ⟨.c (.int .i64 0),[.live (.cells [.view none (.ints .u8 b) n 1 none,.int .i64 (IntKind.i64.wrap (p+1))])],(rp6 (decide (x<1)) ((decide (x<1))&&true)),[]⟩:=by kernel_rfl
theorem a2K (b:List Int) (n:Nat) (p x:Int):aD tt (a9 T65) ([]) 100 Tryz.f47 [.c (.ptr 0 0 0 0),.c (.int .i64 x)] [.live (.cells [.view none (.ints .u8 b) n 1 none,.int .i64 p])] [(0,false),(0,true)]=
  some ⟨.c (.int .i64 0),[.live (.cells [.view none (.ints .u8 b) n 1 none,.int .i64 (IntKind.i64.wrap (p+1))])],(rp6 (!decide (x<1)) ((bif decide (x<1)then true else(↑n:Int)==0)&&true)),[]⟩:=by kernel_rfl
theorem a2L (b:List Int) (n:Nat) (p x:Int):aD tt (a9 T65) ([]) 100 Tryz.f47 [.c (.ptr 0 0 0 0),.c (.int .i64 x)] [.live (.cells [.view none (.ints .u8 b) n 1 none,.int .i64 p])] [(0,false),(0,false),(0,true)]=
  some ⟨.c (.int .i64 ((IntKind.i64.wrap (b.getD (IntKind.i64.wrap (IntKind.i64.wrap (p+1)-1)).toNat 0)).tmod x)),[.live (.cells [.view none (.ints .u8 b) n 1 none,.int .i64 (IntKind.i64.wrap (p+1))])],(rp6 (!decide (x<1)) ((!bif decide (x<1)then true else(↑n:Int)==0)&&(decide (IntKind.i64.wrap (IntKind.i64.wrap (p+1)-1)<(↑n:Int))&&(decide (0≤IntKind.i64.wrap (IntKind.i64.wrap (p+1)-1))&&(decide (IntKind.i64.wrap (IntKind.i64.wrap (p+1)-1)<(↑n:Int))&&(decide ((IntKind.i64.wrap (IntKind.i64.wrap (p+1)-1)).toNat<b.length)&&((!decide (x=0))&&true))))))),[]⟩:=by kernel_rfl
theorem a2M (b:List Int) (n:Nat) (p x:Int):aD tt (a9 T65) ([]) 100 Tryz.f47 [.c (.ptr 0 0 0 0),.c (.int .i64 x)] [.live (.cells [.view none (.ints .u8 b) n 1 none,.int .i64 p])] [(0,false),(0,false),(0,false)]=
  some ⟨.c (.int .i64 ((IntKind.i64.wrap (↑(BitVec.ofInt IntKind.i64.bits (IntKind.i64.wrap (IntKind.i64.wrap (IntKind.i64.wrap (IntKind.i64.wrap (IntKind.i64.wrap (b.getD ((IntKind.i64.wrap (IntKind.i64.wrap (p+1)-1)).tmod (↑n:Int)).toNat 0)*131)+IntKind.i64.wrap (IntKind.i64.wrap (b.getD ((IntKind.i64.wrap (IntKind.i64.wrap (IntKind.i64.wrap (IntKind.i64.wrap (p+1)-1)*7)+3)).tmod (↑n:Int)).toNat 0)*1117))+IntKind.i64.wrap (IntKind.i64.wrap (IntKind.i64.wrap (p+1)-1)*29))+IntKind.i64.wrap (IntKind.i64.wrap ((IntKind.i64.wrap (IntKind.i64.wrap (p+1)-1)).tdiv (↑n:Int))*53)))^^^BitVec.ofInt IntKind.i64.bits (IntKind.i64.wrap ((IntKind.i64.wrap (IntKind.i64.wrap (IntKind.i64.wrap (IntKind.i64.wrap (IntKind.i64.wrap (b.getD ((IntKind.i64.wrap (IntKind.i64.wrap (p+1)-1)).tmod (↑n:Int)).toNat 0)*131)+IntKind.i64.wrap (IntKind.i64.wrap (b.getD ((IntKind.i64.wrap (IntKind.i64.wrap (IntKind.i64.wrap (IntKind.i64.wrap (p+1)-1)*7)+3)).tmod (↑n:Int)).toNat 0)*1117))+IntKind.i64.wrap (IntKind.i64.wrap (IntKind.i64.wrap (p+1)-1)*29))+IntKind.i64.wrap (IntKind.i64.wrap ((IntKind.i64.wrap (IntKind.i64.wrap (p+1)-1)).tdiv (↑n:Int))*53))).tdiv 64))).toNat:Int)).tmod x)),[.live (.cells [.view none (.ints .u8 b) n 1 none,.int .i64 (IntKind.i64.wrap (p+1))])],(rp6 (!decide (x<1)) ((!bif decide (x<1)then true else(↑n:Int)==0)&&(!decide (IntKind.i64.wrap (IntKind.i64.wrap (p+1)-1)<(↑n:Int))&&(!decide ((↑n:Int)=0)&&(decide (0≤(IntKind.i64.wrap (IntKind.i64.wrap (p+1)-1)).tmod (↑n:Int))&&(decide ((IntKind.i64.wrap (IntKind.i64.wrap (p+1)-1)).tmod (↑n:Int)<(↑n:Int))&&(decide (((IntKind.i64.wrap (IntKind.i64.wrap (p+1)-1)).tmod (↑n:Int)).toNat<b.length)&&(!decide ((↑n:Int)=0)&&(decide (0≤(IntKind.i64.wrap (IntKind.i64.wrap (IntKind.i64.wrap (IntKind.i64.wrap (p+1)-1)*7)+3)).tmod (↑n:Int))&&(decide ((IntKind.i64.wrap (IntKind.i64.wrap (IntKind.i64.wrap (IntKind.i64.wrap (p+1)-1)*7)+3)).tmod (↑n:Int)<(↑n:Int))&&(decide (((IntKind.i64.wrap (IntKind.i64.wrap (IntKind.i64.wrap (IntKind.i64.wrap (p+1)-1)*7)+3)).tmod (↑n:Int)).toNat<b.length)&&(!decide ((↑n:Int)=0)&&((!decide (x=0))&&true))))))))))))),[]⟩:=by kernel_rfl
end
section
def aZ (b:List Int):Bool:=b.all fun x=>bet x 0 255
theorem iH {b:List Int} (h:aZ b=true) (i:Nat):0≤b.getD i 0∧b.getD i 0≤255:=by
 have:=g6 (p:=fun x=>bet x 0 255) rfl h i
 exact aX.1 this
def pkY (b:List Int) (p:Int):Int:=b.getD (p%(b.length:Int)).toNat 0*131+b.getD ((p*7+3)%(b.length:Int)).toNat 0*1117+p*29+p/(b.length:Int)*53
def pk (b:List Int) (p x:Int):Int:=bif decide (x<1)||((b.length:Int)==0)then 0 else bif decide (p<(b.length:Int))then b.getD p.toNat 0%x else(((pkY b p).toNat^^^(pkY b p/64).toNat:Nat):Int)%x
theorem dR (b:List Int) (p:Int) {x:Int} (hx:1≤x):0≤pk b p x∧pk b p x<x:=by
 unfold pk
 cases decide (x<1)||((b.length:Int)==0)with
 |true=>rw[cond_true];omega
 |false=>
  rw[cond_false]
  cases decide (p<(b.length:Int))with
  |true=>rw[cond_true];exact⟨Int.emod_nonneg _ (by omega),Int.emod_lt_of_pos _ (by omega)⟩
  |false=>rw[cond_false];exact⟨Int.emod_nonneg _ (by omega),Int.emod_lt_of_pos _ (by omega)⟩
theorem v8 {p n:Int} (h0:0≤p) (hn:0<n):0≤p/n∧p/n≤p:=⟨Int.ediv_nonneg h0 (by omega),Int.ediv_le_self _ h0⟩
theorem M0 {b:List Int} {p:Int} (hb:aZ b=true) (h0:0≤p) (h1:p≤1000000) (hn:0<(b.length:Int)):0≤pkY b p∧pkY b p<1000000000:=by
 unfold pkY
 have e1:=iH hb (p%(b.length:Int)).toNat
 have e2:=iH hb ((p*7+3)%(b.length:Int)).toNat
 have e3:=v8 h0 hn
 omega
theorem OI {y:Int} (h0:0≤y) (h1:y<1000000000):((BitVec.ofInt 64 y^^^BitVec.ofInt 64 (y/64)).toNat:Int)=((y.toNat^^^(y/64).toNat:Nat):Int):=by
 rw[BitVec.toNat_xor,BitVec.toNat_ofInt,BitVec.toNat_ofInt]
 congr 2
 ·omega
 ·omega
theorem K4 {y:Int} (h0:0≤y) (h1:y<1000000000):((BitVec.ofInt IntKind.i64.bits y^^^BitVec.ofInt IntKind.i64.bits (y/64)).toNat:Int)=((y.toNat^^^(y/64).toNat:Nat):Int):=OI h0 h1
theorem OH {y:Int} (h0:0≤y) (h1:y<1000000000):y.toNat^^^(y/64).toNat<2^30:=Nat.xor_lt_two_pow (by omega) (by omega)
theorem eR {a n:Int} (h:0≤a):a.tmod n=a%n:=Int.tmod_eq_emod_of_nonneg h
theorem y5 {a n:Int} (h:0≤a):a.tdiv n=a/n:=Int.tdiv_eq_ediv_of_nonneg h
def B7:aN:=fun args h=>
 match args,h with
 |[.c (.ptr 0 0 0 0),.c (.int .i64 x)],[.live (.cells [.view none (.ints .u8 b) n 1 none,.int .i64 p])]=>
  some (.c (.int .i64 (pk b p x)),[.live (.cells [.view none (.ints .u8 b) n 1 none,.int .i64 (p+1)])],[decide (n=b.length),aZ b,decide (0≤p),decide (p≤1000000)])
 |_,_=>none
theorem m86:aP Tryz.prog 47 B7:=by
 intro args h res h' o he ho
 unfold B7 at he
 split at he
 case h_2=>cases he
 rename_i x b n p
 simp only[Option.some.injEq,Prod.mk.injEq]at he
 obtain⟨rfl,rfl,rfl⟩:=he
 simp only[List.mem_cons,List.not_mem_nil,or_false,forall_eq_or_imp,forall_eq,decide_eq_true_eq]at ho
 obtain⟨o1,o2,o3,o4⟩:=ho
 subst o1
 unfold pk
 have w1:IntKind.i64.wrap (p+1)=p+1:=aB (by omega) (by omega)
 have w2:IntKind.i64.wrap (IntKind.i64.wrap (p+1)-1)=p:=by rw[w1,aB (by omega) (by omega)];omega
 have w3:IntKind.i64.wrap (p+1-1)=p:=by rw[aB (by omega) (by omega)];omega
 cases c1:decide (x<1)with
 |true=>
  have e:=a2J b b.length p x
  rw[w1]at e
  exact mo t65 e (by simp only[c1,bS,rpS])
 |false=>
  cases c2:((b.length:Int)==0)with
  |true=>
   have e:=a2K b b.length p x
   rw[w1]at e
   exact mo t65 e (by simp only[c1,c2,bS,rpS])
  |false=>
   have hx: ¬x<1:=of_decide_eq_false c1
   have hn:(b.length:Int)≠0:=by simpa using c2
   cases c3:decide (p<(b.length:Int))with
   |true=>
    have hp:p<(b.length:Int):=of_decide_eq_true c3
    have hb:=iH o2 p.toNat
    have e:=a2L b b.length p x
    rw[w2,w1,aB (i:=b.getD p.toNat 0) (by omega) (by omega),eR hb.1]at e
    exact mo t65 e (by simp only[c1,c2,c3,bS,rpS];simp;omega)
   |false=>
    have hp: ¬p<(b.length:Int):=of_decide_eq_false c3
    have hn0:0<(b.length:Int):=by omega
    have e:=a2M b b.length p x
    have b1:=iH o2 (p%(b.length:Int)).toNat
    have b2:=iH o2 ((p*7+3)%(b.length:Int)).toNat
    have b3:=v8 o3 hn0
    have k1:p.tmod (b.length:Int)=p%(b.length:Int):=eR o3
    have k2:IntKind.i64.wrap (IntKind.i64.wrap (p*7)+3)=p*7+3:=by rw[aB (i:=p*7) (by omega) (by omega),aB (by omega) (by omega)]
    have k3:(p*7+3).tmod (b.length:Int)=(p*7+3)%(b.length:Int):=eR (by omega)
    have k4:p.tdiv (b.length:Int)=p/(b.length:Int):=y5 o3
    have y0:=M0 o2 o3 o4 hn0
    have k5:IntKind.i64.wrap (IntKind.i64.wrap (IntKind.i64.wrap (IntKind.i64.wrap (IntKind.i64.wrap (b.getD (p%(b.length:Int)).toNat 0)*131)+IntKind.i64.wrap (IntKind.i64.wrap (b.getD ((p*7+3)%(b.length:Int)).toNat 0)*1117))+IntKind.i64.wrap (p*29))+IntKind.i64.wrap (IntKind.i64.wrap (p/(b.length:Int))*53))=pkY b p:=by
     unfold pkY at y0⊢
     rw[aB (i:=b.getD (p%(b.length:Int)).toNat 0) (by omega) (by omega),aB (i:=b.getD ((p*7+3)%(b.length:Int)).toNat 0) (by omega) (by omega),aB (i:=p/(b.length:Int)) (by omega) (by omega),
      aB (i:=b.getD (p%(b.length:Int)).toNat 0*131) (by omega) (by omega),aB (i:=b.getD ((p*7+3)%(b.length:Int)).toNat 0*1117) (by omega) (by omega),aB (i:=p*29) (by omega) (by omega),
      aB (i:=p/(b.length:Int)*53) (by omega) (by omega),aB (i:=b.getD (p%(b.length:Int)).toNat 0*131+b.getD ((p*7+3)%(b.length:Int)).toNat 0*1117) (by omega) (by omega),
      aB (i:=b.getD (p%(b.length:Int)).toNat 0*131+b.getD ((p*7+3)%(b.length:Int)).toNat 0*1117+p*29) (by omega) (by omega),aB (by omega) (by omega)]
    have k6:(pkY b p).tdiv 64=pkY b p/64:=y5 y0.1
    have k7:IntKind.i64.wrap (pkY b p/64)=pkY b p/64:=aB (by omega) (by omega)
    have hxb:=OH y0.1 y0.2
    have g1:0≤p%(b.length:Int)∧p%(b.length:Int)<(b.length:Int):=⟨Int.emod_nonneg _ hn,Int.emod_lt_of_pos _ hn0⟩
    have g2:0≤(p*7+3)%(b.length:Int)∧(p*7+3)%(b.length:Int)<(b.length:Int):=⟨Int.emod_nonneg _ hn,Int.emod_lt_of_pos _ hn0⟩
    simp only[w2,w1,w3,k1,k2,k3,k4,k5,k6,k7,K4 y0.1 y0.2]at e
    rw[aB (i:=(((pkY b p).toNat^^^(pkY b p/64).toNat:Nat):Int)) (by omega) (by omega),eR (a:=(((pkY b p).toNat^^^(pkY b p/64).toNat:Nat):Int)) (by omega)]at e
    exact mo t65 e (by simp only[c1,c2,c3,bS,rpS,Bool.not_eq_true',decide_eq_false_iff_not];omega)
def B6:aN:=fun args h=>
 match args,h with
 |[.c (.view _ (.ints .u8 b) n 1 _)],[]=>
  some (.c (.ptr 0 0 0 0),[.live (.cells [.view none (.ints .u8 (b.take 2000)) (b.take 2000).length 1 none,.int .i64 0])],[])
 |_,_=>none
theorem m47:aT Tryz.prog 45 B6:=by
 intro args h res h' o hnorm he ho
 unfold B6 at he
 split at he
 case h_2=>cases he
 rename_i nl b n cap
 simp only[Option.some.injEq,Prod.mk.injEq]at he
 obtain⟨rfl,rfl,rfl⟩:=he
 simp only[bE,AV.norm,bF,aF.norm,Con.size,List.cons.injEq,AV.c.injEq,AV.agg.injEq,aF.view.injEq,aL,true_and,and_true]at hnorm
 obtain⟨rfl,rfl,rfl⟩:=hnorm
 cases c1:decide ((b.length:Int)>2000)with
 |true=>
  have h:=of_decide_eq_true c1
  have hl:(b.take 2000).length=2000:=by rw[List.length_take];omega
  rw[hl]
  exact mo t65 (a1Y b) (by simp only[c1,bS,rpS];omega)
 |false=>
  have h:=of_decide_eq_false c1
  have hl:b.take 2000=b:=List.take_of_length_le (by omega)
  rw[hl]
  exact mo t65 (a1Z b) (by simp only[c1,bS,rpS])
noncomputable def T66:List bD:=[⟨47,[0],B7⟩,⟨45,[],nm B6⟩]++T65
theorem e66:a6 Tryz.prog T66:=by
 refine a6.append ?_ e65
 intro e he
 simp only[List.mem_cons,List.not_mem_nil,or_false]at he
 rcases he with rfl|rfl
 ·exact m86
 ·exact m47.ok
theorem t66:bJ Tryz.prog (a9 T66):=aM e66
theorem a2Y (b:List Int) (n:Nat) (p:Int):aD tt (a9 T66) ([]) 100 Tryz.f107 [.c (.ptr 0 0 0 0)] [.live (.cells [.view none (.ints .u8 b) n 1 none,.int .i64 p])] []=
  some ⟨.c (.sl 1 0 4 1 none),[.live (.cells [.view none (.ints .u8 b) n 1 none,.int .i64 (p+1+1+1+1)]),.live (.ints .i64 [pk b p 31,pk b (p+1) 4,pk b (p+1+1) 31,pk b (p+1+1+1) 27])],(decide (n=b.length)&&(aZ b&&(decide (0≤p)&&(decide (p≤1000000)&&(decide (n=b.length)&&(aZ b&&(decide (0≤p+1)&&(decide (p+1≤1000000)&&(decide (n=b.length)&&(aZ b&&(decide (0≤p+1+1)&&(decide (p+1+1≤1000000)&&(decide (n=b.length)&&(aZ b&&(decide (0≤p+1+1+1)&&((decide (p+1+1+1≤1000000))&&true)))))))))))))))),[]⟩:=by kernel_rfl
theorem a2N (b:List Int) (n:Nat) (p:Int):aD tt (a9 T66) ([]) 100 Tryz.f65 [.c (.ptr 0 0 0 0)] [.live (.cells [.view none (.ints .u8 b) n 1 none,.int .i64 p])] [(0,true)]=
  some ⟨.c (.int .i64 ([0,3].getD (pk b (p+1) 2).toNat 0)),[.live (.cells [.view none (.ints .u8 b) n 1 none,.int .i64 (p+1+1)])],(decide (n=b.length)&&(aZ b&&(decide (0≤p)&&(decide (p≤1000000)&&((pk b p 40==0)&&(decide (n=b.length)&&(aZ b&&(decide (0≤p+1)&&(decide (p+1≤1000000)&&(decide (0≤pk b (p+1) 2)&&(decide (pk b (p+1) 2<2)&&((decide ((pk b (p+1) 2).toNat<2))&&true)))))))))))),[]⟩:=by kernel_rfl
theorem a2O (b:List Int) (n:Nat) (p:Int):aD tt (a9 T66) ([]) 100 Tryz.f65 [.c (.ptr 0 0 0 0)] [.live (.cells [.view none (.ints .u8 b) n 1 none,.int .i64 p])] [(0,false)]=
  some ⟨.c (.int .i64 (IntKind.i64.wrap (1+pk b (p+1) 2))),[.live (.cells [.view none (.ints .u8 b) n 1 none,.int .i64 (p+1+1)])],(decide (n=b.length)&&(aZ b&&(decide (0≤p)&&(decide (p≤1000000)&&((!pk b p 40==0)&&(decide (n=b.length)&&(aZ b&&(decide (0≤p+1)&&((decide (p+1≤1000000))&&true))))))))),[]⟩:=by kernel_rfl
theorem a34 (b:List Int) (n:Nat) (p:Int):aD tt (a9 T66) ([]) 100 Tryz.f108 [.c (.ptr 0 0 0 0)] [.live (.cells [.view none (.ints .u8 b) n 1 none,.int .i64 p])] [(0,true)]=
  some ⟨.c (.int .i64 0),[.live (.cells [.view none (.ints .u8 b) n 1 none,.int .i64 (p+1)])],(decide (n=b.length)&&(aZ b&&(decide (0≤p)&&(decide (p≤1000000)&&((pk b p 10==0)&&true))))),[]⟩:=by kernel_rfl
theorem a35 (b:List Int) (n:Nat) (p:Int):aD tt (a9 T66) ([]) 100 Tryz.f108 [.c (.ptr 0 0 0 0)] [.live (.cells [.view none (.ints .u8 b) n 1 none,.int .i64 p])] [(0,false),(0,true)]=
  some ⟨.c (.int .i64 ([1,30].getD (pk b (p+1) 2).toNat 0)),[.live (.cells [.view none (.ints .u8 b) n 1 none,.int .i64 (p+1+1)])],(decide (n=b.length)&&(aZ b&&(decide (0≤p)&&(decide (p≤1000000)&&((!pk b p 10==0)&&((pk b p 10==1)&&(decide (n=b.length)&&(aZ b&&(decide (0≤p+1)&&(decide (p+1≤1000000)&&(decide (0≤pk b (p+1) 2)&&(decide (pk b (p+1) 2<2)&&((decide ((pk b (p+1) 2).toNat<2))&&true))))))))))))),[]⟩:=by kernel_rfl
theorem a36 (b:List Int) (n:Nat) (p:Int):aD tt (a9 T66) ([]) 100 Tryz.f108 [.c (.ptr 0 0 0 0)] [.live (.cells [.view none (.ints .u8 b) n 1 none,.int .i64 p])] [(0,false),(0,false),(0,true),(0,true)]=
  some ⟨.c (.int .i64 ([-1,31].getD (pk b (p+1+1) 2).toNat 0)),[.live (.cells [.view none (.ints .u8 b) n 1 none,.int .i64 (p+1+1+1)])],(decide (n=b.length)&&(aZ b&&(decide (0≤p)&&(decide (p≤1000000)&&((!pk b p 10==0)&&((!pk b p 10==1)&&((pk b p 10==2)&&(decide (n=b.length)&&(aZ b&&(decide (0≤p+1)&&(decide (p+1≤1000000)&&((pk b (p+1) 5==0)&&(decide (n=b.length)&&(aZ b&&(decide (0≤p+1+1)&&(decide (p+1+1≤1000000)&&(decide (0≤pk b (p+1+1) 2)&&(decide (pk b (p+1+1) 2<2)&&((decide ((pk b (p+1+1) 2).toNat<2))&&true))))))))))))))))))),[]⟩:=by kernel_rfl
theorem a37 (b:List Int) (n:Nat) (p:Int):aD tt (a9 T66) ([]) 100 Tryz.f108 [.c (.ptr 0 0 0 0)] [.live (.cells [.view none (.ints .u8 b) n 1 none,.int .i64 p])] [(0,false),(0,false),(0,true),(0,false)]=
  some ⟨.c (.int .i64 (pk b (p+1+1) 31)),[.live (.cells [.view none (.ints .u8 b) n 1 none,.int .i64 (p+1+1+1)])],(decide (n=b.length)&&(aZ b&&(decide (0≤p)&&(decide (p≤1000000)&&((!pk b p 10==0)&&((!pk b p 10==1)&&((pk b p 10==2)&&(decide (n=b.length)&&(aZ b&&(decide (0≤p+1)&&(decide (p+1≤1000000)&&((!pk b (p+1) 5==0)&&(decide (n=b.length)&&(aZ b&&(decide (0≤p+1+1)&&((decide (p+1+1≤1000000))&&true)))))))))))))))),[]⟩:=by kernel_rfl
theorem a38 (b:List Int) (n:Nat) (p:Int):aD tt (a9 T66) ([]) 100 Tryz.f108 [.c (.ptr 0 0 0 0)] [.live (.cells [.view none (.ints .u8 b) n 1 none,.int .i64 p])] [(0,false),(0,false),(0,false)]=
  some ⟨.c (.int .i64 (pk b (p+1) 31)),[.live (.cells [.view none (.ints .u8 b) n 1 none,.int .i64 (p+1+1)])],(decide (n=b.length)&&(aZ b&&(decide (0≤p)&&(decide (p≤1000000)&&((!pk b p 10==0)&&((!pk b p 10==1)&&((!pk b p 10==2)&&(decide (n=b.length)&&(aZ b&&(decide (0≤p+1)&&((decide (p+1≤1000000))&&true))))))))))),[]⟩:=by kernel_rfl
end
section
theorem L7 {xs:List Int} {o len q:Nat} (h:o+len≤xs.length) (hq:q<len):((xs.drop o).take len).getD q 0=xs.getD (o+q) 0:=by
 rw[List.getD_eq_getElem?_getD,List.getD_eq_getElem?_getD,List.getElem?_take,if_pos hq,List.getElem?_drop]
theorem bA.cut {P:Program} {f:FuncId} {args:List AV} {h h':List aW} {id o len:Nat} {cap:Option Nat} {k:IntKind} {xs:List Int} (hm:bA P f args h (.c (.sl id o len 1 cap)) h') (hs:Heap.get h' id=.live (.ints k xs)) (hl:o+len≤xs.length):
  bA P f args h (.c (.view none (.ints k ((xs.drop o).take len)) len 1 none)) (h'.set id .dead):=by
 refine⟨hm.1,fun {X w0 ρ0} m vs hl' hv=> ?_⟩
 refine Calls.mono (hm.2 m vs hl' hv) ?_
 rintro e w' ⟨v,ρ',rfl,mb,im,m',hx⟩
 obtain⟨mo,m2⟩:=m'.kill (id:=id) (by rw[hs];simp)
 refine⟨v,upd ρ' id .dead,rfl,mb.trans mo.toB,im.trans mo.ids,m2, ?_⟩
 have hsz:((xs.drop o).take len).length=len:=by rw[List.length_take,List.length_drop];omega
 cases hx with
 |c x v hx=>
  refine .c _ _ ?_
  have nl: ∀b,ρ' id=.row b→ ¬(bH (upd ρ' id .dead) b∨X b):=by
   rintro b hb (⟨j,hj⟩|hxb)
   ·by_cases ej:j=id
    ·subst ej;rw[b8]at hj;cases hj
    ·rw[bG _ _ ej]at hj;exact ej (m'.inj j id b hj hb)
   ·exact m'.notX hb hxb
  rcases cW m' hs hx with⟨b,c,ty,n,hb,rfl,⟨cs,ty',hrow,hsz',hcs⟩,hsh,hn,hlc,hcap⟩|⟨ad,rfl,rfl,hcap⟩
  ·refine .view none (.ints k ((xs.drop o).take len)) len 1 none b (o*1) c (fun q=>cs.getD (o+q) undef) (fun _ h=>nl b hb h) (fun q hq=> ?_) (fun q hq=> ?_) (by rw[Nat.mul_one];exact hsz.symm) hlc (fun _ h=>by cases h) (fun _ h=>by cases h)
   ·have hq':q<len:=by rw[←hsz];exact hq
    have h2:xs.length≤cs.size:=hsz'
    have h3:o+q<cs.size:=by omega
    simp[World.cell?,hrow,Array.getD,h3]
   ·have hq':q<len:=by rw[←hsz];exact hq
    have h2:=hcs (o+q) (by show o+q<xs.length;omega)
    have h3:(Con.ints k ((xs.drop o).take len)).cell q=(Con.ints k xs).cell (o+q):=by
     show aF.int k _=aF.int k _
     rw[L7 hl hq']
    rw[h3]
    exact CR0.mono (mo.toB.or X) (h2.free rfl) (cB.noIds _)
  ·exact .viewNone none _ 1 none ad 0 hsz (fun _ h=>by cases h) (fun _ h=>by cases h) (fun _=>rfl)
end
section
def d4L (b:List Int) (p:Int):List Int:=[pk b p 31,pk b (p+1) 4,pk b (p+2) 31,pk b (p+3) 27]
theorem p2 (p:Int):p+1+1=p+2:=by omega
theorem p3 (p:Int):p+2+1=p+3:=by omega
theorem p4 (p:Int):p+3+1=p+4:=by omega
def P0:aN:=fun args h=>
 match args,h with
 |[.c (.ptr 0 0 0 0)],[.live (.cells [.view none (.ints .u8 b) n 1 none,.int .i64 p])]=>
  some (.c (.sl 1 0 4 1 none),[.live (.cells [.view none (.ints .u8 b) n 1 none,.int .i64 (p+4)]),.live (.ints .i64 (d4L b p))],[decide (n=b.length),aZ b,decide (0≤p),decide (p≤900000)])
 |_,_=>none
theorem m96:aP Tryz.prog 107 P0:=by
 intro args h res h' o he ho
 unfold P0 at he
 split at he
 case h_2=>cases he
 rename_i b n p
 simp only[Option.some.injEq,Prod.mk.injEq]at he
 obtain⟨rfl,rfl,rfl⟩:=he
 simp only[List.mem_cons,List.not_mem_nil,or_false,forall_eq_or_imp,forall_eq,decide_eq_true_eq]at ho
 obtain⟨o1,o2,o3,o4⟩:=ho
 have e:=a2Y b n p
 simp only[p2,p3,p4]at e
 exact mo t66 e (by simp only[o1,o2,bS,rpS];omega)
def kdV (b:List Int) (p:Int):Int:=bif pk b p 40==0 then [0,3].getD (pk b (p+1) 2).toNat 0 else 1+pk b (p+1) 2
def P2:aN:=fun args h=>
 match args,h with
 |[.c (.ptr 0 0 0 0)],[.live (.cells [.view none (.ints .u8 b) n 1 none,.int .i64 p])]=>
  some (.c (.int .i64 (kdV b p)),[.live (.cells [.view none (.ints .u8 b) n 1 none,.int .i64 (p+2)])],[decide (n=b.length),aZ b,decide (0≤p),decide (p≤900000)])
 |_,_=>none
theorem m89:aP Tryz.prog 65 P2:=by
 intro args h res h' o he ho
 unfold P2 at he
 split at he
 case h_2=>cases he
 rename_i b n p
 simp only[Option.some.injEq,Prod.mk.injEq]at he
 obtain⟨rfl,rfl,rfl⟩:=he
 simp only[List.mem_cons,List.not_mem_nil,or_false,forall_eq_or_imp,forall_eq,decide_eq_true_eq]at ho
 obtain⟨o1,o2,o3,o4⟩:=ho
 have h2:=dR b (p+1) (x:=2) (by omega)
 unfold kdV
 cases c1:pk b p 40==0 with
 |true=>
  have e:=a2N b n p
  simp only[p2]at e
  exact mo t66 e (by simp only[c1,o1,o2,bS,rpS];omega)
 |false=>
  have e:=a2O b n p
  simp only[p2]at e
  rw[aB (by omega) (by omega)]at e
  exact mo t66 e (by simp only[c1,o1,o2,bS,rpS];omega)
def nmV (b:List Int) (p:Int):Int×Int:=bif pk b p 10==0 then(0,p+1)else bif pk b p 10==1 then([1,30].getD (pk b (p+1) 2).toNat 0,p+2)else
 bif pk b p 10==2 then(bif pk b (p+1) 5==0 then([-1,31].getD (pk b (p+2) 2).toNat 0,p+3)else(pk b (p+2) 31,p+3))else(pk b (p+1) 31,p+2)
def P6:aN:=fun args h=>
 match args,h with
 |[.c (.ptr 0 0 0 0)],[.live (.cells [.view none (.ints .u8 b) n 1 none,.int .i64 p])]=>
  some (.c (.int .i64 (nmV b p).1),[.live (.cells [.view none (.ints .u8 b) n 1 none,.int .i64 (nmV b p).2])],[decide (n=b.length),aZ b,decide (0≤p),decide (p≤900000)])
 |_,_=>none
theorem m98:aP Tryz.prog 108 P6:=by
 intro args h res h' o he ho
 unfold P6 at he
 split at he
 case h_2=>cases he
 rename_i b n p
 simp only[Option.some.injEq,Prod.mk.injEq]at he
 obtain⟨rfl,rfl,rfl⟩:=he
 simp only[List.mem_cons,List.not_mem_nil,or_false,forall_eq_or_imp,forall_eq,decide_eq_true_eq]at ho
 obtain⟨o1,o2,o3,o4⟩:=ho
 have h2:=dR b (p+1) (x:=2) (by omega)
 have h3:=dR b (p+2) (x:=2) (by omega)
 unfold nmV
 cases c1:pk b p 10==0 with
 |true=>exact mo t66 (a34 b n p) (by simp only[c1,o1,o2,bS,rpS];omega)
 |false=>
  cases c2:pk b p 10==1 with
  |true=>
   have e:=a35 b n p
   simp only[p2]at e
   exact mo t66 e (by simp only[c1,c2,o1,o2,bS,rpS];omega)
  |false=>
   cases c3:pk b p 10==2 with
   |true=>
    cases c4:pk b (p+1) 5==0 with
    |true=>
     have e:=a36 b n p
     simp only[p2,p3]at e
     exact mo t66 e (by simp only[c1,c2,c3,c4,o1,o2,bS,rpS];omega)
    |false=>
     have e:=a37 b n p
     simp only[p2,p3]at e
     exact mo t66 e (by simp only[c1,c2,c3,c4,o1,o2,bS,rpS];omega)
   |false=>
    have e:=a38 b n p
    simp only[p2]at e
    exact mo t66 e (by simp only[c1,c2,c3,o1,o2,bS,rpS];omega)
noncomputable def T67:List bD:=[⟨107,[0],P0⟩,⟨65,[0],P2⟩,⟨108,[0],P6⟩]++T66
theorem e67:a6 Tryz.prog T67:=by
 refine a6.append ?_ e66
 intro e he
 simp only[List.mem_cons,List.not_mem_nil,or_false]at he
 rcases he with rfl|rfl|rfl
 ·exact m96
 ·exact m89
 ·exact m98
theorem t67:bJ Tryz.prog (a9 T67):=aM e67
noncomputable abbrev f90:=Tryz.f66
noncomputable def I90 (b:List Int) (n:Nat) (p:Int) (m:Nat) (v:List Int) (i:Int):St:=
 aY f90.ntmps [(0,.c (.ptr 0 0 0 0)),(3,.c (.sl 1 0 m 1 none)),(4,.c (.int .i64 i))] [.live (.cells [.view none (.ints .u8 b) n 1 none,.int .i64 p]),.live (.ints .i64 v)]
noncomputable def X90 (b:List Int) (n:Nat) (p:Int) (m:Nat) (v:List Int):St:=
 aY f90.ntmps [(0,.c (.ptr 0 0 0 0)),(3,.c (.sl 1 0 m 1 none))] [.live (.cells [.view none (.ints .u8 b) n 1 none,.int .i64 p]),.live (.ints .i64 v)]
theorem ZF (b:List Int) (n:Nat) (p:Int) (m:Nat) (v:List Int) (i:Int):aC 1 (a8 f90 0) (aA f90 0) (aG tt (a9 T67) ([]) 1 100 (a0 0 (a5 f90)) (I90 b n p m v i) [(0,true)])=
  some (.normal,(decide (i<4)&&(decide (n=b.length)&&(aZ b&&(decide (0≤p)&&(decide (p≤1000000)&&(decide (n=b.length)&&(aZ b&&(decide (0≤p+1)&&(decide (p+1≤1000000)&&(decide (n=b.length)&&(aZ b&&(decide (0≤p+1+1)&&(decide (p+1+1≤1000000)&&(decide (n=b.length)&&(aZ b&&(decide (0≤p+1+1+1)&&(decide (p+1+1+1≤1000000)&&(decide (0≤pk b (p+1+1+1) 4)&&(decide (pk b (p+1+1+1) 4<4)&&(decide ((pk b (p+1+1+1) 4).toNat<[0,pk b p 4,pk b (p+1) 31,pk b (p+1+1) 31].length)&&(decide (m=v.length)&&((decide (m+1≤274877906944))&&true)))))))))))))))))))))),[],I90 b n (p+1+1+1+1) (m+1) (v++[[0,pk b p 4,pk b (p+1) 31,pk b (p+1+1) 31].getD (pk b (p+1+1+1) 4).toNat 0]) (IntKind.i64.wrap (i+1))):=by kernel_rfl
theorem ZG (b:List Int) (n:Nat) (p:Int) (m:Nat) (v:List Int) (i:Int):aC 1 (a8 f90 0) (aA f90 0) (aG tt (a9 T67) ([]) 1 100 (a0 0 (a5 f90)) (I90 b n p m v i) [(0,false)])=
  some (.exit 0,((!decide (i<4))&&true),[],X90 b n (p) (m) (v)):=by kernel_rfl
theorem a2P (b:List Int) (n:Nat) (p q:Int) (v:List Int):aD tt (a9 T67) ([(0,⟨a8 f90 0,I90 b n p 0 [] 0,.normal,X90 b n q 4 v⟩)]) 100 f90 [.c (.ptr 0 0 0 0)] [.live (.cells [.view none (.ints .u8 b) n 1 none,.int .i64 p])] [(0,true)]=
  some ⟨.c (.sl 1 1 3 1 none),[.live (.cells [.view none (.ints .u8 b) n 1 none,.int .i64 (q+1)]),.live (.ints .i64 v)],(decide (n=b.length)&&(aZ b&&(decide (0≤q)&&(decide (q≤1000000)&&((pk b q 40==0)&&true))))),[I90 b n p 0 [] 0=I90 b n p 0 [] 0]⟩:=by kernel_rfl
theorem a2Q (b:List Int) (n:Nat) (p q:Int) (v:List Int):aD tt (a9 T67) ([(0,⟨a8 f90 0,I90 b n p 0 [] 0,.normal,X90 b n q 4 v⟩)]) 100 f90 [.c (.ptr 0 0 0 0)] [.live (.cells [.view none (.ints .u8 b) n 1 none,.int .i64 p])] [(0,false),(0,true)]=
  some ⟨.c (.sl 1 0 4 1 none),[.live (.cells [.view none (.ints .u8 b) n 1 none,.int .i64 (q+1+1+1)]),.live (.ints .i64 (v.set (pk b (q+1) 4).toNat ([-1,31].getD (pk b (q+1+1) 2).toNat 0)))],(decide (n=b.length)&&(aZ b&&(decide (0≤q)&&(decide (q≤1000000)&&((!pk b q 40==0)&&((pk b q 40==1)&&(decide (n=b.length)&&(aZ b&&(decide (0≤q+1)&&(decide (q+1≤1000000)&&(decide (n=b.length)&&(aZ b&&(decide (0≤q+1+1)&&(decide (q+1+1≤1000000)&&(decide (0≤pk b (q+1+1) 2)&&(decide (pk b (q+1+1) 2<2)&&(decide ((pk b (q+1+1) 2).toNat<2)&&(decide (0≤pk b (q+1) 4)&&(decide (pk b (q+1) 4<4)&&((decide ((pk b (q+1) 4).toNat<v.length))&&true)))))))))))))))))))),[I90 b n p 0 [] 0=I90 b n p 0 [] 0]⟩:=by kernel_rfl
theorem a2R (b:List Int) (n:Nat) (p q:Int) (v:List Int):aD tt (a9 T67) ([(0,⟨a8 f90 0,I90 b n p 0 [] 0,.normal,X90 b n q 4 v⟩)]) 100 f90 [.c (.ptr 0 0 0 0)] [.live (.cells [.view none (.ints .u8 b) n 1 none,.int .i64 p])] [(0,false),(0,false)]=
  some ⟨.c (.sl 1 0 4 1 none),[.live (.cells [.view none (.ints .u8 b) n 1 none,.int .i64 (q+1)]),.live (.ints .i64 v)],(decide (n=b.length)&&(aZ b&&(decide (0≤q)&&(decide (q≤1000000)&&((!pk b q 40==0)&&((!pk b q 40==1)&&true)))))),[I90 b n p 0 [] 0=I90 b n p 0 [] 0]⟩:=by kernel_rfl
theorem UJ (x:Int):aD tt (a9 T67) ([]) 100 Tryz.f210 [.c (.int .i64 x)] [] []=
  some ⟨.c (.sl 0 0 8 1 none),[.live (.bools [x.tmod 2==1,(IntKind.i64.wrap (x.tdiv 2)).tmod 2==1,(IntKind.i64.wrap ((IntKind.i64.wrap (x.tdiv 2)).tdiv 2)).tmod 2==1,(IntKind.i64.wrap ((IntKind.i64.wrap ((IntKind.i64.wrap (x.tdiv 2)).tdiv 2)).tdiv 2)).tmod 2==1,(IntKind.i64.wrap ((IntKind.i64.wrap ((IntKind.i64.wrap ((IntKind.i64.wrap (x.tdiv 2)).tdiv 2)).tdiv 2)).tdiv 2)).tmod 2==1,(IntKind.i64.wrap ((IntKind.i64.wrap ((IntKind.i64.wrap ((IntKind.i64.wrap ((IntKind.i64.wrap (x.tdiv 2)).tdiv 2)).tdiv 2)).tdiv 2)).tdiv 2)).tmod 2==1,(IntKind.i64.wrap ((IntKind.i64.wrap ((IntKind.i64.wrap ((IntKind.i64.wrap ((IntKind.i64.wrap ((IntKind.i64.wrap (x.tdiv 2)).tdiv 2)).tdiv 2)).tdiv 2)).tdiv 2)).tdiv 2)).tmod 2==1,(IntKind.i64.wrap ((IntKind.i64.wrap ((IntKind.i64.wrap ((IntKind.i64.wrap ((IntKind.i64.wrap ((IntKind.i64.wrap ((IntKind.i64.wrap (x.tdiv 2)).tdiv 2)).tdiv 2)).tdiv 2)).tdiv 2)).tdiv 2)).tdiv 2)).tmod 2==1])],true,[]⟩:=by kernel_rfl
def evV (b:List Int) (p:Int):Int:=[0,pk b p 4,pk b (p+1) 31,pk b (p+2) 31].getD (pk b (p+3) 4).toNat 0
def vS (b:List Int) (p:Int) (i:Nat) (v:List Int):List Int:=v++[evV b (p+4*i)]
def v4L (b:List Int) (p:Int):List Int:=[evV b p,evV b (p+4),evV b (p+8),evV b (p+12)]
def vcL (b:List Int) (p:Int):List Int×Int:=bif pk b (p+16) 40==0 then((v4L b p).drop 1,p+17)else bif pk b (p+16) 40==1 then((v4L b p).set (pk b (p+17) 4).toNat ([-1,31].getD (pk b (p+18) 2).toNat 0),p+19)else(v4L b p,p+17)
theorem l90 (b:List Int) (n:Nat) (p:Int) (o1:n=b.length) (o2:aZ b=true) (o3:0≤p) (o4:p≤900000):
  aS Tryz.prog 1 (.block 0 (.loop (a0 0 (a5 f90)))) (I90 b n p 0 [] 0) fun e t=>e=.normal∧t=X90 b n (p+16) 4 (v4L b p):=by
 have key:=aS.count hT t67 bK (m:=1) (id:=0) (body:=a0 0 (a5 f90)) 4 (fun i v=>v.length=i) (fun i v=>I90 b n (p+4*i) v.length v i) (fun v=>X90 b n (p+16) v.length v) (vS b p) (a8 f90 0) (aA f90 0)
  (fun _ _=>[]) (fun _ _ _ _=>aI.nil) (fun i v hi h=>⟨by simp[vS,h], ?_⟩) (fun v h=>⟨_,_,⟨_,_,ZG b n (p+16) v.length v (4:Nat),by rfl,by simp⟩⟩) [] rfl
 ·have e0:p+4*((0:Nat):Int)=p:=by omega
  rw[e0]at key
  have e1:bL (vS b p) 4 0 []=v4L b p:=by
   show [evV b (p+4*((0:Nat):Int)),evV b (p+4*((1:Nat):Int)),evV b (p+4*((2:Nat):Int)),evV b (p+4*((3:Nat):Int))]=_
   unfold v4L
   rw[show p+4*((0:Nat):Int)=p from by omega,show p+4*((1:Nat):Int)=p+4 from by omega,show p+4*((2:Nat):Int)=p+8 from by omega,show p+4*((3:Nat):Int)=p+12 from by omega]
  rw[e1]at key
  exact key
 ·have e:=ZF b n (p+4*i) v.length v i
  rw[aB (by omega) (by omega)]at e
  simp only[p2,p3,p4]at e
  have h4:=dR b (p+4*i+3) (x:=4) (by omega)
  have e5:p+4*((i+1:Nat):Int)=p+4*(i:Int)+4:=by omega
  unfold vS evV
  rw[List.length_append,e5]
  refine⟨_,_,⟨_,_,e, ?_,by simp⟩⟩
  simp only[o2,List.length_cons,List.length_nil,bS,rpS]
  omega
def PE:aN:=fun args h=>
 match args,h with
 |[.c (.ptr 0 0 0 0)],[.live (.cells [.view none (.ints .u8 b) n 1 none,.int .i64 p])]=>
  some (.c (.view none (.ints .i64 (vcL b p).1) (vcL b p).1.length 1 none),[.live (.cells [.view none (.ints .u8 b) n 1 none,.int .i64 (vcL b p).2]),.dead],[decide (n=b.length),aZ b,decide (0≤p),decide (p≤900000)])
 |_,_=>none
theorem m90:aP Tryz.prog 66 PE:=by
 intro args h res h' o he ho
 unfold PE at he
 split at he
 case h_2=>cases he
 rename_i b n p
 simp only[Option.some.injEq,Prod.mk.injEq]at he
 obtain⟨rfl,rfl,rfl⟩:=he
 simp only[List.mem_cons,List.not_mem_nil,or_false,forall_eq_or_imp,forall_eq,decide_eq_true_eq]at ho
 obtain⟨o1,o2,o3,o4⟩:=ho
 have g:=l90 b n p o1 o2 o3 o4
 have lo: ∀cc,a5 f90=cc→aI Tryz.prog 1 [(0,⟨a8 f90 0,I90 b n p 0 [] 0,.normal,X90 b n (p+16) 4 (v4L b p)⟩)] cc:=fun cc h=>by
  subst h;exact aI.cons (by kernel_rfl) g aI.nil
 have h2:=dR b (p+18) (x:=2) (by omega)
 have h3:=dR b (p+17) (x:=4) (by omega)
 have q1:p+16+1=p+17:=by omega
 have q2:p+17+1=p+18:=by omega
 have q3:p+18+1=p+19:=by omega
 unfold vcL
 cases c1:pk b (p+16) 40==0 with
 |true=>
  have e:=a2P b n p (p+16) (v4L b p)
  simp only[q1,q2,q3]at e
  exact(mo (f:=66) (fn:=f90) t67 e (by simp only[c1,o1,o2,bS,rpS];omega) (hlc:=(fun cc hcc=>lo cc (by cases hcc;rfl)))).cut rfl (by show 1+3≤4;omega)
 |false=>
  cases c2:pk b (p+16) 40==1 with
  |true=>
   have e:=a2Q b n p (p+16) (v4L b p)
   simp only[q1,q2,q3]at e
   have hl:(v4L b p).length=4:=rfl
   have mm:=(mo (f:=66) (fn:=f90) t67 e (by simp only[c1,c2,o1,o2,hl,bS,rpS];omega) (hlc:=(fun cc hcc=>lo cc (by cases hcc;rfl)))).cut rfl (by rw[List.length_set];show 0+4≤4;omega)
   have ht:(((v4L b p).set (pk b (p+17) 4).toNat ([-1,31].getD (pk b (p+18) 2).toNat 0)).drop 0).take 4=(v4L b p).set (pk b (p+17) 4).toNat ([-1,31].getD (pk b (p+18) 2).toNat 0):=by
    rw[List.drop_zero,List.take_of_length_le (by rw[List.length_set];exact Nat.le_refl 4)]
   rw[ht]at mm
   have hl2:((v4L b p).set (pk b (p+17) 4).toNat ([-1,31].getD (pk b (p+18) 2).toNat 0)).length=4:=by rw[List.length_set];rfl
   rw[cond_false,cond_true,hl2]
   exact mm
  |false=>
   have e:=a2R b n p (p+16) (v4L b p)
   simp only[q1,q2,q3]at e
   exact(mo (f:=66) (fn:=f90) t67 e (by simp only[c1,c2,o1,o2,bS,rpS];omega) (hlc:=(fun cc hcc=>lo cc (by cases hcc;rfl)))).cut rfl (by show 0+4≤4;omega)
def st8 (x:Int):List Bool:=[x%2==1,x/2%2==1,x/4%2==1,x/8%2==1,x/16%2==1,x/32%2==1,x/64%2==1,x/128%2==1]
theorem C9 {x:Int} (h0:0≤x) (h1:x≤1000000):IntKind.i64.wrap (x.tdiv 2)=x/2:=by rw[y5 h0];exact aB (by omega) (by omega)
def G9:aN:=fun args h=>
 match args,h with
 |[.c (.int .i64 x)],[]=>
  some (.c (.sl 0 0 8 1 none),[.live (.bools (st8 x))],[decide (0≤x),decide (x≤1000000)])
 |_,_=>none
theorem a6M:aT Tryz.prog 210 G9:=by
 intro args h res h' o hnorm he ho
 unfold G9 at he
 split at he
 case h_2=>cases he
 rename_i x
 simp only[Option.some.injEq,Prod.mk.injEq]at he
 obtain⟨rfl,rfl,rfl⟩:=he
 simp only[List.mem_cons,List.not_mem_nil,or_false,forall_eq_or_imp,forall_eq,decide_eq_true_eq]at ho
 obtain⟨o1,o2⟩:=ho
 have e:=UJ x
 rw[C9 o1 o2,C9 (by omega) (by omega),C9 (by omega) (by omega),C9 (by omega) (by omega),C9 (by omega) (by omega),C9 (by omega) (by omega),C9 (by omega) (by omega),eR o1,eR (by omega),eR (by omega),eR (by omega),eR (by omega),eR (by omega),eR (by omega),eR (by omega)]at e
 rw[show x/2/2=x/4 from by omega,show x/4/2=x/8 from by omega,show x/8/2=x/16 from by omega,show x/16/2=x/32 from by omega,show x/32/2=x/64 from by omega,show x/64/2=x/128 from by omega]at e
 exact mo t67 e (by simp)
noncomputable def T68:List bD:=[⟨66,[0],PE⟩,⟨210,[],nm G9⟩]++T67
theorem e68:a6 Tryz.prog T68:=by
 refine a6.append ?_ e67
 intro e he
 simp only[List.mem_cons,List.not_mem_nil,or_false]at he
 rcases he with rfl|rfl
 ·exact m90
 ·exact a6M.ok
theorem t68:bJ Tryz.prog (a9 T68):=aM e68
end
section
theorem LP:aP Tryz.prog 177 (fJ tt (a9 T68) Tryz.f177 []):=dZ hT t68 bK [] (by kernel_rfl) (by kernel_rfl)
noncomputable def T69:List bD:=[⟨177,[],fJ tt (a9 T68) Tryz.f177 []⟩]++T68
theorem e69:a6 Tryz.prog T69:=by
 refine a6.append ?_ e68
 intro e he
 simp only[List.mem_cons,List.not_mem_nil,or_false]at he
 subst he;exact LP
theorem t69:bJ Tryz.prog (a9 T69):=aM e69
theorem TW (k:Int) (v:List Int) (x:Int):aD tt (a9 T69) ([]) 100 Tryz.f148 [.c (.int .i64 k),.c (.view none (.ints .i64 v) v.length 1 none),.c (.int .i64 x)] [] [(0,true)]=
  some ⟨.tup [.agg [.int .i64 0,.nils,.nils,.nils],.c (.bool false)],[],(rp3 (!bet k 1 2) ((!bet k 1 2)&&true)),[]⟩:=by kernel_rfl
theorem TX (k:Int) (v:List Int) (x:Int):aD tt (a9 T69) ([]) 100 Tryz.f148 [.c (.int .i64 k),.c (.view none (.ints .i64 v) v.length 1 none),.c (.int .i64 x)] [] [(0,false),(0,true)]=
  some ⟨.tup [.agg [.int .i64 0,.nils,.nils,.nils],.c (.bool false)],[],(rp2 (!!bet k 1 2) (decide (v.length≤274877906944)&&(!!bet k 1 2&&(rp4 (bif !bet k 1 2 then true else !vok v) true)))),[]⟩:=by kernel_rfl
theorem TY (k:Int) (v:List Int) (x:Int):aD tt (a9 T69) ([]) 100 Tryz.f148 [.c (.int .i64 k),.c (.view none (.ints .i64 v) v.length 1 none),.c (.int .i64 x)] [] [(0,false),(0,false),(0,true)]=
  some ⟨.tup [.agg [.int .i64 0,.nils,.nils,.nils],.c (.bool false)],[],(rp2 (!!bet k 1 2) (decide (v.length≤274877906944)&&(!!bet k 1 2&&(rp3 (!bif !bet k 1 2 then true else !vok v) ((bif bif !bet k 1 2 then true else !vok v then true else !bet x 1 99)&&true))))),[]⟩:=by kernel_rfl
theorem TZ (k:Int) (v:List Int) (x:Int):aD tt (a9 T69) ([]) 100 Tryz.f148 [.c (.int .i64 k),.c (.view none (.ints .i64 v) v.length 1 none),.c (.int .i64 x)] [] [(0,false),(0,false),(0,false)]=
  some ⟨.tup [.agg [.int .i64 k,.sl 0 0 8 1 none,.sl 1 0 8 1 none,.sl 2 0 8 1 none],.c (.bool true)],[.live (.ints .i64 (cdL k v)),.live (.ints .i64 [x,x,x,x,x,x,x,x]),.live (.bools [true,true,true,true,true,true,true,true])],(rp2 (!!bet k 1 2) (decide (v.length≤274877906944)&&(!!bet k 1 2&&(rp3 (!bif !bet k 1 2 then true else !vok v) ((!bif bif !bet k 1 2 then true else !vok v then true else !bet x 1 99)&&((bet k 1 2&&(decide (v.length=4)&&(a7 v&&true)))&&true)))))),[]⟩:=by kernel_rfl
theorem CY {P:Program} {f:FuncId} {args:List AV} {b:Bool} (hm:bA P f args [] (.tup [.agg [.int .i64 0,.nils,.nils,.nils],.c (.bool b)]) []):bA P f args [] (.tup [.agg [.int .i64 0,.sl 0 0 0 1 none,.sl 1 0 0 1 none,.sl 2 0 0 1 none],.c (.bool b)]) [.live (.ints .i64 []),.live (.ints .i64 []),.live (.bools [])]:=
 ((hm.nil1 (es:=1) (c0:=.ints .i64 []) rfl rfl).nil1 (es:=1) (c0:=.ints .i64 []) rfl rfl).nil1 (es:=1) (c0:=.bools []) rfl rfl
def snB (k:Int) (v:List Int) (x:Int):Bool:=bet k 1 2&&(aE v 4&&bet x 1 99)
def snK (k:Int) (v:List Int) (x:Int):PK:=bif snB k v x then⟨k,fT k v,dS x,dS true,false,0,[],0⟩else PK0
def BG:aN:=fun args h=>
 match args,h with
 |[.c (.int .i64 k),.c (.view _ (.ints .i64 v) n 1 _),.c (.int .i64 x)],[]=>
  some (.tup [.agg [.int .i64 (snK k v x).k,.sl 0 0 (snK k v x).a.length 1 none,.sl 1 0 (snK k v x).b.length 1 none,.sl 2 0 (snK k v x).c.length 1 none],.c (.bool (snB k v x))],[.live (.ints .i64 (snK k v x).a),.live (.ints .i64 (snK k v x).b),.live (.bools (snK k v x).c)],[decide (v.length≤274877906944)])
 |_,_=>none
theorem a5N:aT Tryz.prog 148 BG:=by
 intro args h res h' o hnorm he ho
 unfold BG at he
 split at he
 case h_2=>cases he
 rename_i k nl v n cap x
 simp only[Option.some.injEq,Prod.mk.injEq]at he
 obtain⟨rfl,rfl,rfl⟩:=he
 simp only[List.mem_cons,List.not_mem_nil,or_false,forall_eq_or_imp,forall_eq,decide_eq_true_eq]at ho
 have o1:=ho
 simp only[bE,AV.norm,bF,aF.norm,Con.size,List.cons.injEq,AV.c.injEq,AV.agg.injEq,aF.view.injEq,aL,true_and,and_true]at hnorm
 obtain⟨rfl,rfl,rfl⟩:=hnorm
 unfold snK snB
 cases h1:bet k 1 2 with
 |false=>exact CY (mo t69 (TW k v x) (by simp only[h1,o1,bS,rpS]))
 |true=>
  have hve:=oE v
  cases h2:aE v 4 with
  |false=>exact CY (mo t69 (TX k v x) (by simp only[h1,hve,h2,o1,bS,rpS]))
  |true=>
   cases h3:bet x 1 99 with
   |false=>exact CY (mo t69 (TY k v x) (by simp only[h1,hve,h2,h3,o1,bS,rpS]))
   |true=>
    obtain⟨hf,hl⟩:=kU h2
    have e:=TZ k v x
    rw[sC h1]at e
    exact mo t69 e (by simp only[h1,hve,h2,h3,hf,hl,o1,bS,rpS];simp)
noncomputable def T70:List bD:=[⟨148,[],nm BG⟩]++T69
theorem e70:a6 Tryz.prog T70:=by
 refine a6.append ?_ e69
 intro e he
 simp only[List.mem_cons,List.not_mem_nil,or_false]at he
 subst he;exact a5N.ok
theorem t70:bJ Tryz.prog (a9 T70):=aM e70
theorem a2W (k:Int) (v:List Int):aD tt (a9 T70) ([]) 100 Tryz.f106 [.c (.int .i64 k),.c (.view none (.ints .i64 v) v.length 1 none)] [] [(0,true)]=
  some ⟨.tup [.agg [.int .i64 0,.nils,.nils,.nils,.bool false,.int .i64 0,.nils,.int .i64 0],.c (.bool false)],[],(decide (v.length≤274877906944)&&((!snB k v 1)&&true)),[]⟩:=by kernel_rfl
theorem a2X (k:Int) (v:List Int):aD tt (a9 T70) ([]) 100 Tryz.f106 [.c (.int .i64 k),.c (.view none (.ints .i64 v) v.length 1 none)] [] [(0,false)]=
  some ⟨.tup [.agg [.int .i64 (snK k v 1).k,.sl 0 0 (snK k v 1).a.length 1 none,.sl 1 0 (snK k v 1).b.length 1 none,.sl 2 0 (snK k v 1).c.length 1 none,.bool false,.int .i64 0,.sl 3 0 0 1 none,.int .i64 0],.c (.bool true)],[.live (.ints .i64 (snK k v 1).a),.live (.ints .i64 (snK k v 1).b),.live (.bools (snK k v 1).c),.live (.ints .i64 [])],(decide (v.length≤274877906944)&&((!!snB k v 1)&&true)),[]⟩:=by kernel_rfl
end
section
theorem iK {α:Type} {l l':List α} {d:α} (hl:l.length=l'.length) (h: ∀i,i<l.length→l.getD i d=l'.getD i d):l=l':=by
 apply List.ext_getElem? fun i=> ?_
 by_cases hi:i<l.length
 ·have:=h i hi
  rw[List.getD_eq_getElem?_getD,List.getD_eq_getElem?_getD,List.getElem?_eq_getElem hi,List.getElem?_eq_getElem (by omega)]at this
  rw[List.getElem?_eq_getElem hi,List.getElem?_eq_getElem (by omega)]
  simpa using this
 ·rw[List.getElem?_eq_none (by omega),List.getElem?_eq_none (by omega)]
variable {k : Int} {a b : List Int} {c : List Bool} {kd : Int} {d : List Int} {vs : Int}
theorem DU {i:Nat}:mxL (b.set i 0)≤mxL b:=by
 refine DV (gW b) fun j hj=> ?_
 rw[List.length_set]at hj
 rw[aU]
 split
 ·exact gW b
 ·exact(eZ b).1 j hj
theorem zO {i:Nat} (hb:b.length=8) (hc:c.length=8) (h:c9 (gD b c) 8 0=true):c9 (gD (b.set i 0) (c.set i false)) 8 0=true:=by
 rw[bX]at h⊢
 intro j _ hj
 have hj8:j<8:=by omega
 have:=h j (by omega) hj
 unfold gD at this⊢
 rw[d8,aU]
 by_cases e:i=j
 ·rw[if_pos ⟨e,by omega⟩];rfl
 ·rw[if_neg (fun h=>e h.1),if_neg (fun h=>e h.1)]
  cases hq:c.getD j false with
  |false=>rfl
  |true=>
   rw[hq,cond_true]at this
   have hv:b.getD j 0=mxL b:=by simpa using this
   have h1:=DU (b:=b) (i:=i)
   have h2:=(eZ (b.set i 0)).1 j (by rw[List.length_set];omega)
   rw[aU,if_neg (fun h=>e h.1)]at h2
   have:mxL (b.set i 0)=b.getD j 0:=by omega
   rw[cond_true,this];simp
theorem mO.chg (K:mO k a b c kd d vs) {i:Nat} {x y:Int} {z:Bool} (hi:i<8) (hy:y=vs∨(x=0∧y=0∧z=false)) (hn:y=vs→z=true∧x=c8 kd d (i:Int)):mO k (a.set i x) (b.set i y) (c.set i z) kd d vs:=by
 have hv:=aX.1 K.hvs
 have la:(a.set i x).length=8:=by rw[List.length_set];exact K.ha
 have lb:(b.set i y).length=8:=by rw[List.length_set];exact K.hb
 have lc:(c.set i z).length=8:=by rw[List.length_set];exact K.hc
 obtain⟨z1,z2,z3⟩:=tI a b c vs
 obtain⟨y1,y2,y3⟩:=tI (a.set i x) (b.set i y) (c.set i z) vs
 have g:=fun j (hj:j<8)=>mI (vs:=vs) K.ha K.hb K.hc hj
 have g':=fun j (hj:j<8)=>mI (vs:=vs) la lb lc hj
 have gb: ∀j,j<8→(b.set i y).getD j 0=if i=j then y else b.getD j 0:=fun j hj=>by
  rw[aU]
  by_cases e:i=j
  ·rw[if_pos ⟨e,by have:=K.hb;omega⟩,if_pos e]
  ·rw[if_neg (fun h=>e h.1),if_neg e]
 have ga: ∀j,j<8→(a.set i x).getD j 0=if i=j then x else a.getD j 0:=fun j hj=>by
  rw[aU]
  by_cases e:i=j
  ·rw[if_pos ⟨e,by have:=K.ha;omega⟩,if_pos e]
  ·rw[if_neg (fun h=>e h.1),if_neg e]
 have gc: ∀j,j<8→(c.set i z).getD j false=if i=j then z else c.getD j false:=fun j hj=>by
  rw[d8]
  by_cases e:i=j
  ·rw[if_pos ⟨e,by have:=K.hc;omega⟩,if_pos e]
  ·rw[if_neg (fun h=>e h.1),if_neg e]
 have eA:rsA (a.set i x) (b.set i y) (c.set i z) vs=(rsA a b c vs).set i 0:=iK (d:=0) (by rw[y1,la,List.length_set,z1,K.ha]) fun j hj=>by
  have hj8:j<8:=by rw[y1,la]at hj;exact hj
  rw[(g' j hj8).1,gb j hj8,ga j hj8,aU,(g j hj8).1]
  by_cases e:i=j
  ·simp only[if_pos e]
   rw[if_pos (show i=j∧i<(rsA a b c vs).length from⟨e,by rw[z1,K.ha];exact hi⟩)]
   rcases hy with h|h
   ·rw[if_pos h]
   ·rw[h.1];split<;>rfl
  ·simp only[if_neg e]
   rw[if_neg (fun h=>e (And.left h))]
 have eB:rsB (a.set i x) (b.set i y) (c.set i z) vs=(rsB a b c vs).set i 0:=iK (d:=0) (by rw[y2,lb,List.length_set,z2,K.hb]) fun j hj=>by
  have hj8:j<8:=by rw[y2,lb]at hj;exact hj
  rw[(g' j hj8).2.1,gb j hj8,aU,(g j hj8).2.1]
  by_cases e:i=j
  ·simp only[if_pos e]
   rw[if_pos (show i=j∧i<(rsB a b c vs).length from⟨e,by rw[z2,K.hb];exact hi⟩)]
   rcases hy with h|h
   ·rw[if_pos h]
   ·rw[h.2.1];split<;>rfl
  ·simp only[if_neg e]
   rw[if_neg (fun h=>e (And.left h))]
 have eC:rsC (a.set i x) (b.set i y) (c.set i z) vs=(rsC a b c vs).set i false:=iK (d:=false) (by rw[y3,lc,List.length_set,z3,K.hc]) fun j hj=>by
  have hj8:j<8:=by rw[y3,lc]at hj;exact hj
  rw[(g' j hj8).2.2,gb j hj8,gc j hj8,d8,(g j hj8).2.2]
  by_cases e:i=j
  ·simp only[if_pos e]
   rw[if_pos (show i=j∧i<(rsC a b c vs).length from⟨e,by rw[z3,K.hc];exact hi⟩)]
   rcases hy with h|h
   ·rw[if_pos h]
   ·rw[h.2.2];split<;>rfl
  ·simp only[if_neg e]
   rw[if_neg (fun h=>e (And.left h))]
 refine⟨K.hd,K.hkd,K.hvs,la,lb,lc,by rw[eA,eB,eC];exact K.s.drop i,by rw[eB,eC];exact zO K.s.hb K.s.hc K.one,by rw[eB];have:=DU (b:=rsB a b c vs) (i:=i);have:=K.lt;omega,fun j hj hjv=> ?_⟩
 rw[gb j hj]at hjv
 rw[gc j hj,ga j hj]
 by_cases e:i=j
 ·rw[if_pos e]at hjv
  rw[if_pos e,if_pos e]
  subst e
  exact hn hjv
 ·rw[if_neg e]at hjv
  rw[if_neg e,if_neg e]
  exact K.nt j hj hjv
end
section
def shR (x:PK) (i:Int):PK:=⟨x.k,x.a.set i.toNat ((hI x.kd x.d).getD i.toNat 0),x.b.set i.toNat x.vs,x.c.set i.toNat true,x.on,x.kd,x.d,x.vs⟩
theorem PK.onK {x:PK} (h:x.ok=true) (ho:x.on=true):mO x.k x.a x.b x.c x.kd x.d x.vs:=by
 unfold PK.ok at h;rw[ho]at h;exact iM.1 h
theorem PK.offK {x:PK} (h:x.ok=true) (ho:x.on=false):rZ x.k x.a x.b x.c x.kd x.d x.vs:=by
 unfold PK.ok at h;rw[ho]at h;exact fA.1 h
theorem sZ {x:PK} (ho:x.on=true) (h:mO x.k x.a x.b x.c x.kd x.d x.vs):x.ok=true:=by
 unfold PK.ok;rw[ho];exact iM.2 h
theorem l5 {x:PK} (ho:x.on=false) (h:rZ x.k x.a x.b x.c x.kd x.d x.vs):x.ok=true:=by
 unfold PK.ok;rw[ho];exact fA.2 h
theorem HI {kd:Int} {d:List Int} (hd:aE d 4=true) {i:Nat} (hi:i<8):(hI kd d).getD i 0=c8 kd d (i:Int):=by rw[j4 hd,jX _ _ hi]
theorem J5 {x:PK} {i:Int} (h:x.ok=true) (ho:x.on=true) (hi:bet i 0 7=true):(shR x i).ok=true:=by
 have K:=x.onK h ho
 have hi':=aX.1 hi
 refine sZ ho ?_
 exact K.chg (i:=i.toNat) (by omega) (.inl rfl) fun _=>⟨rfl,HI K.hd (by omega)⟩
theorem FC {x:PK} {i:Int} (h:x.ok=true) (hi:bet i 0 7=true):dC x i=bif x.on then shR x i else x:=by
 unfold dC;rw[h,hi];rfl
theorem xT {k:Int} {a b:List Int} {c:List Bool} (S:Sok k a b c) (h1:c9 (gD b c) 8 0=true) (hb:bO k (flg (aR b c (mxL b)))=true):rdV k a b c=some (mxL b):=by
 have hm:=iG S hb
 have hl:=S.one.1 h1
 have hr:=S.rdB hm
 rw[hb]at hr
 unfold rdV
 revert hm hl
 cases bI b c with
 |nil=>simp
 |cons x r=>
  cases r with
  |cons y r=>simp
  |nil=>
   simp only[List.mem_singleton]
   intro e _
   subst e
   rw[List.find?_cons]
   simp only[hr]
theorem iP {k:Int} {a b:List Int} {c:List Bool} (S:Sok k a b c) (h1:c9 (gD b c) 8 0=true) (h:rdS k a b c=true):bO k (flg (aR b c (mxL b)))=true:=by
 unfold rdS at h
 cases hv:rdV k a b c with
 |none=>rw[hv]at h;cases h
 |some x=>
  unfold rdV at hv
  have h2:=List.find?_some hv
  have hx:=List.mem_of_find?_eq_some hv
  rw[S.rdB hx]at h2
  obtain⟨i,hi,hc,e⟩:=((gI b S.hc).1 x).1 hx
  have:=bX.1 h1 i (by omega) (by omega)
  unfold gD at this
  rw[hc,cond_true,e]at this
  have:x=mxL b:=by simpa using this
  rw[←this];exact h2
theorem LX {x:PK} {i:Int} (h:x.ok=true) (hi:bet i 0 7=true):(gC x i).ok=true:=by
 have hi':=aX.1 hi
 unfold gC
 rw[h,hi,Bool.and_self,cond_true]
 cases ho:x.on with
 |true=>
  rw[Bool.not_true,Bool.and_false,cond_false]
  have K:=x.onK h ho
  refine sZ ho ?_
  have hv:=aX.1 K.hvs
  exact K.chg (i:=i.toNat) (by omega) (.inr ⟨rfl,rfl,rfl⟩) fun e=>by omega
 |false=>
  rw[Bool.not_false,Bool.and_true]
  cases hr:rdS x.k (mX x i).a (mX x i).b (mX x i).c with
  |false=>rw[Bool.not_false,cond_true];exact h
  |true=>
   rw[Bool.not_true,cond_false]
   have K:=x.offK h ho
   exact l5 ho ⟨K.s.drop i.toNat,hr,zO K.s.hb K.s.hc K.one,K.kd0,K.d0,K.vs0⟩
theorem xJ (k:Int) (hk:bet k 1 2=true):bO k (flg (dS true))=true:=by
 rcases two hk with rfl|rfl<;>kernel_rfl
theorem nK (v:Int):aR (dS v) (dS true) v=dS true:=by
 simp[aR,dS]
theorem QW {v:Int} (h:1≤v):mxL (dS v)=v:=by
 have h1:=(eZ (dS v)).1 0 (by show 0<8;omega)
 have h2:mxL (dS v)≤v:=DV (by omega) fun i hi=>by
  have hi:i<8:=hi
  match i,hi with
  |0,_|1,_|2,_|3,_|4,_|5,_|6,_|7,_=>exact Int.le_refl v
 have h3:(dS v).getD 0 0=v:=rfl
 omega
theorem DZ {v:Int} {i:Nat} (hi:i<8):(dS v).getD i 0=v:=by
 match i,hi with
 |0,_|1,_|2,_|3,_|4,_|5,_|6,_|7,_=>rfl
theorem zU {v:Bool} {i:Nat} (hi:i<8):(dS v).getD i false=v:=by
 match i,hi with
 |0,_|1,_|2,_|3,_|4,_|5,_|6,_|7,_=>rfl
theorem HJ (k:Int) (d:List Int):a7 (fT k d)=true:=by
 simp only[fT,a7,List.all_cons,List.all_nil,g9,Bool.and_self]
theorem K2 {k:Int} {d:List Int} {v:Int} (hk:bet k 1 2=true) (hd:aE d 4=true) (hv:bet v 1 99=true):
  Sok k (fT k d) (dS v) (dS true)∧c9 (gD (dS v) (dS true)) 8 0=true∧rdV k (fT k d) (dS v) (dS true)=some v∧rdD k (fT k d) (dS v) (dS true)=d:=by
 have hv':=aX.1 hv
 have hm:=QW hv'.1
 obtain⟨hf,hl⟩:=kU hd
 have F:Fit k (fT k d) (dS true) d:=fun a ha _=>(jX k d ha).symm
 have hfit:cE k (fT k d) (flg (dS true))=true:=gA hk rfl F
 have S:Sok k (fT k d) (dS v) (dS true):=⟨hk,rfl,rfl,rfl,HJ k d,fun i hi _=>by rw[DZ hi,nK];exact⟨hv,hfit⟩,fun i hi hc=>by rw[zU hi]at hc;cases hc⟩
 have h1:c9 (gD (dS v) (dS true)) 8 0=true:=bX.2 fun i _ hi=>by
  unfold gD
  rw[zU (by omega),DZ (by omega),hm,cond_true];simp
 have hv1:rdV k (fT k d) (dS v) (dS true)=some v:=by
  have:=xT S h1 (by rw[hm,nK];exact xJ k hk)
  rw[hm]at this;exact this
 refine⟨S,h1,hv1, ?_⟩
 unfold rdD
 rw[hv1]
 dsimp only
 have hb:Am.rdB k (fT k d) (ofL (dS v) (dS true) v)=true:=by
  rw[gX,nK];unfold Am.rdB;rw[xJ k hk,hfit];rfl
 unfold rdX
 rw[hb,cond_true,gX,nK]
 exact tR hk rfl (xJ k hk) hl hf F
theorem w6 {k:Int} {d:List Int} {v:Int} (hk:bet k 1 2=true) (hd:aE d 4=true) (hv:bet v 1 99=true):rZ k (fT k d) (dS v) (dS true) 0 [] 0:=by
 obtain⟨S,h1,h2,-⟩:=K2 hk hd hv
 exact⟨S,by unfold rdS;rw[h2],h1,rfl,rfl,rfl⟩
theorem LY {x:PK} (h:x.ok=true):(cF x).ok=true:=by
 unfold cF
 rw[h,cond_true]
 cases ho:x.on with
 |false=>rw[cond_false];exact h
 |true=>
  rw[cond_true]
  have K:=x.onK h ho
  refine l5 rfl ?_
  show rZ x.kd (hI x.kd x.d) (dS x.vs) (dS true) 0 [] 0
  rw[j4 K.hd]
  exact w6 K.hkd K.hd K.hvs
theorem J4 {k:Int} {v:List Int} {x:Int} (hs:snB k v x=true):(snK k v x).ok=true:=by
 unfold snK
 rw[hs,cond_true]
 simp only[snB,Bool.and_eq_true,rpS]at hs
 exact l5 rfl (w6 hs.1 hs.2.1 hs.2.2)
theorem NC {a b:List Int} {c:List Bool} {vs:Int} (ha:a.length=8) (hb:b.length=8) (hc:c.length=8) (h: ∀i,i<8→b.getD i 0≠vs):rsA a b c vs=a∧rsB a b c vs=b∧rsC a b c vs=c:=by
 obtain⟨z1,z2,z3⟩:=tI a b c vs
 refine⟨iK (d:=0) z1 fun i hi=> ?_,iK (d:=0) z2 fun i hi=> ?_,iK (d:=false) z3 fun i hi=> ?_⟩
 ·have hi8:i<8:=by rw[z1,ha]at hi;exact hi
  rw[(mI ha hb hc hi8).1,if_neg (h i hi8)]
 ·have hi8:i<8:=by rw[z2,hb]at hi;exact hi
  rw[(mI ha hb hc hi8).2.1,if_neg (h i hi8)]
 ·have hi8:i<8:=by rw[z3,hc]at hi;exact hi
  rw[(mI ha hb hc hi8).2.2,if_neg (h i hi8)]
theorem EF {x:PK} {kind:Int} {e:List Int} (h:gN x kind e=true):x.ok=true∧bet kind 1 2=true∧aE e 4=true∧x.on=false∧(gH x.b x.c==99)=false∧d6 x kind e=⟨x.k,x.a,x.b,x.c,true,kind,e,gH x.b x.c+1⟩:=by
 unfold gN at h
 unfold d6
 cases h1:x.ok&&(bet kind 1 2&&aE e 4)with
 |false=>rw[h1]at h;cases h
 |true=>
  rw[h1,cond_true]at h
  rw[Bool.and_eq_true,Bool.and_eq_true]at h1
  rw[Bool.not_eq_true',Bool.or_eq_false_iff]at h
  refine⟨h1.1,h1.2.1,h1.2.2,h.1,h.2, ?_⟩
  rw[cond_true,h.1,h.2];rfl
theorem QZ {x:PK} {kind:Int} {e:List Int} (h:gN x kind e=true):(d6 x kind e).ok=true:=by
 obtain⟨h1,h2,h3,h4,h5,h6⟩:=EF h
 rw[h6]
 have K:=x.offK h1 h4
 have hm:=K.s.mx
 have ht:=K.s.top
 have hne:mxL x.b≠99:=fun e=>by rw[ht,e]at h5;cases h5
 refine sZ rfl ?_
 show mO x.k x.a x.b x.c kind e (gH x.b x.c+1)
 rw[ht]
 have hle: ∀i,i<8→x.b.getD i 0≠mxL x.b+1:=fun i hi=>by
  have:=(eZ x.b).1 i (by rw[K.s.hb];exact hi);omega
 obtain⟨e1,e2,e3⟩:=NC (vs:=mxL x.b+1) K.s.ha K.s.hb K.s.hc hle
 exact⟨h3,h2,aX.2 ⟨by omega,by omega⟩,K.s.ha,K.s.hb,K.s.hc,by rw[e1,e2,e3];exact K.s,by rw[e2,e3];exact K.one,by rw[e2];omega,fun i hi hv=>absurd hv (hle i hi)⟩
theorem l4 {x:PK} (h:x.ok=true):x.d.length≤4∧x.a.length=8∧x.b.length=8∧x.c.length=8:=by
 obtain⟨s1,s2,s3⟩:=dH (k:=x.k) (a:=x.a) (b:=x.b) (c:=x.c) (on:=x.on) (kd:=x.kd) (d:=x.d) (vs:=x.vs) h
 refine⟨?_,s1,s2,s3⟩
 cases ho:x.on with
 |false=>rw[(x.offK h ho).d0];simp
 |true=>rw[(kU (x.onK h ho).hd).2];omega
end
section
def AX:aN:=fun args h=>
 match args,h with
 |[.c (.int .i64 k),.c (.view _ (.ints .i64 v) n 1 _)],[]=>
  some (.tup [.agg (snK k v 1).cells,.c (.bool (snB k v 1))],[.live (.ints .i64 (snK k v 1).a),.live (.ints .i64 (snK k v 1).b),.live (.bools (snK k v 1).c),.live (.ints .i64 (snK k v 1).d)],[decide (v.length≤274877906944)])
 |_,_=>none
theorem m95:aT Tryz.prog 106 AX:=by
 intro args h res h' o hnorm he ho
 unfold AX at he
 split at he
 case h_2=>cases he
 rename_i k nl v n cap
 simp only[Option.some.injEq,Prod.mk.injEq]at he
 obtain⟨rfl,rfl,rfl⟩:=he
 simp only[List.mem_cons,List.not_mem_nil,or_false,forall_eq_or_imp,forall_eq,decide_eq_true_eq]at ho
 have o1:=ho
 simp only[bE,AV.norm,bF,aF.norm,Con.size,List.cons.injEq,AV.c.injEq,AV.agg.injEq,aF.view.injEq,aL,true_and,and_true]at hnorm
 obtain⟨rfl,rfl,rfl⟩:=hnorm
 have sp: ∀b,snB k v 1=b→snK k v 1=bif b then⟨k,fT k v,dS 1,dS true,false,0,[],0⟩else PK0:=fun b h=>by unfold snK;rw[h]
 cases h:snB k v 1 with
 |false=>
  rw[sp _ h]
  exact gJ (mo t70 (a2W k v) (by simp only[h,o1,bS,rpS]))
 |true=>
  have e:=a2X k v
  rw[sp _ h]at e⊢
  exact mo t70 e (by simp only[h,o1,bS,rpS])
theorem V6 (k:Int) (a b:List Int) (c:List Bool) (on:Bool) (kd:Int) (d:List Int) (vs:Int) (x:Int):aD tt (a9 T61) ([]) 100 Tryz.f105 [.agg [.int .i64 k,.view none (.ints .i64 a) a.length 1 none,.view none (.ints .i64 b) b.length 1 none,.view none (.bools c) c.length 1 none,.bool on,.int .i64 kd,.view none (.ints .i64 d) d.length 1 none,.int .i64 vs],.c (.int .i64 x)] [] []=
  some ⟨.agg [.int .i64 k,.sl 0 0 a.length 1 none,.sl 1 0 b.length 1 none,.sl 2 0 c.length 1 none,.bool on,.int .i64 kd,.sl 3 0 d.length 1 none,.int .i64 vs],[.live (.ints .i64 (a.set x.toNat ((cdL kd d).getD x.toNat 0))),.live (.ints .i64 (b.set x.toNat vs)),.live (.bools (c.set x.toNat true)),.live (.ints .i64 d)],(decide (a.length≤274877906944)&&(decide (b.length≤274877906944)&&(decide (c.length≤274877906944)&&(decide (d.length≤274877906944)&&(bet kd 1 2&&(decide (d.length=4)&&(a7 d&&(decide (0≤x)&&(decide (x<8)&&(decide (x.toNat<(cdL kd d).length)&&(decide (0≤x)&&(decide (x<(↑a.length:Int))&&(decide (x.toNat<a.length)&&(decide (0≤x)&&(decide (x<(↑b.length:Int))&&(decide (x.toNat<b.length)&&(decide (0≤x)&&(decide (x<(↑c.length:Int))&&((decide (x.toNat<c.length))&&true))))))))))))))))))),[]⟩:=by kernel_rfl
def D2:aN:=fun args h=>
 match args,h with
 |[.agg [.int .i64 k,.view _ (.ints .i64 a) n1 1 _,.view _ (.ints .i64 b) n2 1 _,.view _ (.bools c) n3 1 _,.bool on,.int .i64 kd,.view _ (.ints .i64 d) n4 1 _,.int .i64 vs],.c (.int .i64 x)],[]=>
  some (.agg (shR ⟨k,a,b,c,on,kd,d,vs⟩ x).cells,[.live (.ints .i64 (shR ⟨k,a,b,c,on,kd,d,vs⟩ x).a),.live (.ints .i64 (shR ⟨k,a,b,c,on,kd,d,vs⟩ x).b),.live (.bools (shR ⟨k,a,b,c,on,kd,d,vs⟩ x).c),.live (.ints .i64 (shR ⟨k,a,b,c,on,kd,d,vs⟩ x).d)],[decide (a.length=8),decide (b.length=8),decide (c.length=8),bet kd 1 2,aE d 4,bet x 0 7])
 |_,_=>none
theorem m52:aT Tryz.prog 105 D2:=by
 intro args h res h' o hnorm he ho
 unfold D2 at he
 split at he
 case h_2=>cases he
 rename_i k nl1 a n1 cap1 nl2 b n2 cap2 nl3 c n3 cap3 on kd nl4 d n4 cap4 vs x
 simp only[Option.some.injEq,Prod.mk.injEq]at he
 obtain⟨rfl,rfl,rfl⟩:=he
 simp only[List.mem_cons,List.not_mem_nil,or_false,forall_eq_or_imp,forall_eq,decide_eq_true_eq]at ho
 obtain⟨o1,o2,o3,o4,o5,o6⟩:=ho
 simp only[bE,AV.norm,bF,aF.norm,Con.size,List.cons.injEq,AV.c.injEq,AV.agg.injEq,aF.view.injEq,aL,true_and,and_true]at hnorm
 obtain⟨⟨rfl,rfl,rfl⟩,⟨rfl,rfl,rfl⟩,⟨rfl,rfl,rfl⟩,rfl,rfl,rfl⟩:=hnorm
 have hx':=aX.1 o6
 obtain⟨hf,hd4⟩:=kU o5
 have hcd:(cdL kd d).length=8:=rfl
 have mm:=mo (f:=105) t61 (V6 k a b c on kd d vs x) (by simp only[o1,o2,o3,o4,hf,hd4,hcd,bS,rpS];omega)
 rw[sC o4,←j4 o5]at mm
 have e1:(a.set x.toNat ((hI kd d).getD x.toNat 0)).length=a.length:=List.length_set
 have e2:(b.set x.toNat vs).length=b.length:=List.length_set
 have e3:(c.set x.toNat true).length=c.length:=List.length_set
 show bA _ _ _ _ (.agg [.int .i64 k,.sl 0 0 (a.set x.toNat ((hI kd d).getD x.toNat 0)).length 1 none,.sl 1 0 (b.set x.toNat vs).length 1 none,.sl 2 0 (c.set x.toNat true).length 1 none,.bool on,.int .i64 kd,.sl 3 0 d.length 1 none,.int .i64 vs]) _
 rw[e1,e2,e3]
 exact mm
noncomputable def T71:List bD:=[⟨106,[],nm AX⟩,⟨105,[],nm D2⟩]++T70
theorem e71:a6 Tryz.prog T71:=by
 refine a6.append ?_ e70
 intro e he
 simp only[List.mem_cons,List.not_mem_nil,or_false]at he
 rcases he with rfl|rfl
 ·exact m95.ok
 ·exact m52.ok
theorem t71:bJ Tryz.prog (a9 T71):=aM e71
noncomputable abbrev f46:=Tryz.f46
noncomputable def I46 (b:List Int) (n:Nat) (p:Int) (x:PK) (m:Int):St:=
 aY f46.ntmps [(0,.c (.ptr 0 0 0 0)),(2,.c (.ptr 1 0 0 0)),(3,.c (.ptr 2 0 0 0)),(5,.c (.int .i64 m))] [.live (.cells [.view none (.ints .u8 b) n 1 none,.int .i64 p]),.live (.cells [.int .i64 0,.nils,.nils,.nils,.bool false,.int .i64 0,.nils,.int .i64 0]),.live (.cells [.int .i64 x.k,.sl 3 0 x.a.length 1 none,.sl 4 0 x.b.length 1 none,.sl 5 0 x.c.length 1 none,.bool x.on,.int .i64 x.kd,.sl 6 0 x.d.length 1 none,.int .i64 x.vs]),.live (.ints .i64 x.a),.live (.ints .i64 x.b),.live (.bools x.c),.live (.ints .i64 x.d)]
noncomputable def X46 (b:List Int) (n:Nat) (p:Int) (x:PK):St:=
 aY f46.ntmps [(0,.c (.ptr 0 0 0 0)),(2,.c (.ptr 1 0 0 0)),(3,.c (.ptr 2 0 0 0))] [.live (.cells [.view none (.ints .u8 b) n 1 none,.int .i64 p]),.live (.cells [.int .i64 0,.nils,.nils,.nils,.bool false,.int .i64 0,.nils,.int .i64 0]),.live (.cells [.int .i64 x.k,.sl 3 0 x.a.length 1 none,.sl 4 0 x.b.length 1 none,.sl 5 0 x.c.length 1 none,.bool x.on,.int .i64 x.kd,.sl 6 0 x.d.length 1 none,.int .i64 x.vs]),.live (.ints .i64 x.a),.live (.ints .i64 x.b),.live (.bools x.c),.live (.ints .i64 x.d)]
theorem Y2 (b:List Int) (n:Nat) (p:Int) (x:PK) (m:Int):aC 1 (a8 f46 0) (aA f46 0) (aG tt (a9 T71) ([]) 1 100 (a0 0 (a5 f46)) (I46 b n p x m) [(0,true),(0,true),(0,true),(0,true)])=
  some (.normal,(decide (m>0)&&(decide (n=b.length)&&(aZ b&&(decide (0≤p)&&(decide (p≤1000000)&&(rp2 (pk b p 7==0) (decide (n=b.length)&&(aZ b&&(decide (0≤p+1)&&(decide (p+1≤1000000)&&(decide (n=b.length)&&(aZ b&&(decide (0≤p+1+1)&&(decide (p+1+1≤900000)&&(decide (x.2.length=x.2.length)&&(decide (x.3.length=x.3.length)&&(decide (x.4.length=x.4.length)&&(decide (x.7.length=x.7.length)&&(decide (x.2.length≤274877906944)&&(decide (x.7.length≤274877906944)&&((gN x (IntKind.i64.wrap (1+pk b (p+1) 2)) (d4L b (p+1+1)))&&true))))))))))))))))))))),[],I46 b n (p+1+1+4) (d6 x (IntKind.i64.wrap (1+pk b (p+1) 2)) (d4L b (p+1+1))) (IntKind.i64.wrap (m-1))):=by kernel_rfl
theorem Y3 (b:List Int) (n:Nat) (p:Int) (x:PK) (m:Int):aC 1 (a8 f46 0) (aA f46 0) (aG tt (a9 T71) ([]) 1 100 (a0 0 (a5 f46)) (I46 b n p x m) [(0,true),(0,true),(0,true),(0,false)])=
  some (.normal,(decide (m>0)&&(decide (n=b.length)&&(aZ b&&(decide (0≤p)&&(decide (p≤1000000)&&(rp2 (pk b p 7==0) (decide (n=b.length)&&(aZ b&&(decide (0≤p+1)&&(decide (p+1≤1000000)&&(decide (n=b.length)&&(aZ b&&(decide (0≤p+1+1)&&(decide (p+1+1≤900000)&&(decide (x.2.length=x.2.length)&&(decide (x.3.length=x.3.length)&&(decide (x.4.length=x.4.length)&&(decide (x.7.length=x.7.length)&&(decide (x.2.length≤274877906944)&&(decide (x.7.length≤274877906944)&&((!gN x (IntKind.i64.wrap (1+pk b (p+1) 2)) (d4L b (p+1+1)))&&true))))))))))))))))))))),[],I46 b n (p+1+1+4) x (IntKind.i64.wrap (m-1))):=by kernel_rfl
theorem Y4 (b:List Int) (n:Nat) (p:Int) (x:PK) (m:Int):aC 1 (a8 f46 0) (aA f46 0) (aG tt (a9 T71) ([]) 1 100 (a0 0 (a5 f46)) (I46 b n p x m) [(0,true),(0,false),(0,true),(0,true)])=
  some (.normal,(decide (m>0)&&(decide (n=b.length)&&(aZ b&&(decide (0≤p)&&(decide (p≤1000000)&&((!pk b p 7==0)&&((pk b p 7==1)&&(decide (n=b.length)&&(aZ b&&(decide (0≤p+1)&&(decide (p+1≤1000000)&&(decide (n=b.length)&&(aZ b&&(decide (0≤p+1+1)&&(decide (p+1+1≤900000)&&(decide (x.2.length=x.2.length)&&(decide (x.3.length=x.3.length)&&(decide (x.4.length=x.4.length)&&(decide (x.7.length=x.7.length)&&(decide (x.2.length≤274877906944)&&(decide (x.7.length≤274877906944)&&((gN x (IntKind.i64.wrap (1+pk b (p+1) 2)) (d4L b (p+1+1)))&&true)))))))))))))))))))))),[],I46 b n (p+1+1+4) (d6 x (IntKind.i64.wrap (1+pk b (p+1) 2)) (d4L b (p+1+1))) (IntKind.i64.wrap (m-1))):=by kernel_rfl
theorem Y5 (b:List Int) (n:Nat) (p:Int) (x:PK) (m:Int):aC 1 (a8 f46 0) (aA f46 0) (aG tt (a9 T71) ([]) 1 100 (a0 0 (a5 f46)) (I46 b n p x m) [(0,true),(0,false),(0,true),(0,false)])=
  some (.normal,(decide (m>0)&&(decide (n=b.length)&&(aZ b&&(decide (0≤p)&&(decide (p≤1000000)&&((!pk b p 7==0)&&((pk b p 7==1)&&(decide (n=b.length)&&(aZ b&&(decide (0≤p+1)&&(decide (p+1≤1000000)&&(decide (n=b.length)&&(aZ b&&(decide (0≤p+1+1)&&(decide (p+1+1≤900000)&&(decide (x.2.length=x.2.length)&&(decide (x.3.length=x.3.length)&&(decide (x.4.length=x.4.length)&&(decide (x.7.length=x.7.length)&&(decide (x.2.length≤274877906944)&&(decide (x.7.length≤274877906944)&&((!gN x (IntKind.i64.wrap (1+pk b (p+1) 2)) (d4L b (p+1+1)))&&true)))))))))))))))))))))),[],I46 b n (p+1+1+4) x (IntKind.i64.wrap (m-1))):=by kernel_rfl
theorem Y6 (b:List Int) (n:Nat) (p:Int) (x:PK) (m:Int):aC 1 (a8 f46 0) (aA f46 0) (aG tt (a9 T71) ([]) 1 100 (a0 0 (a5 f46)) (I46 b n p x m) [(0,true),(0,false),(0,false),(0,true),(0,true),(0,true)])=
  some (.normal,(decide (m>0)&&(decide (n=b.length)&&(aZ b&&(decide (0≤p)&&(decide (p≤1000000)&&((!pk b p 7==0)&&((!pk b p 7==1)&&(rp2 (pk b p 7==2) ((x.5)&&(decide (n=b.length)&&(aZ b&&(decide (0≤p+1)&&(decide (p+1≤1000000)&&(decide (x.2.length=x.2.length)&&(decide (x.3.length=x.3.length)&&(decide (x.4.length=x.4.length)&&(decide (x.7.length=x.7.length)&&(decide (x.2.length=8)&&(decide (x.3.length=8)&&(decide (x.4.length=8)&&(bet x.6 1 2&&(aE x.7 4&&((bet (pk b (p+1) 8) 0 7)&&true))))))))))))))))))))))),[],I46 b n (p+1+1) (shR x (pk b (p+1) 8)) (IntKind.i64.wrap (m-1))):=by kernel_rfl
theorem Y7 (b:List Int) (n:Nat) (p:Int) (x:PK) (m:Int):aC 1 (a8 f46 0) (aA f46 0) (aG tt (a9 T71) ([]) 1 100 (a0 0 (a5 f46)) (I46 b n p x m) [(0,true),(0,false),(0,false),(0,true),(0,true),(0,false)])=
  some (.normal,(decide (m>0)&&(decide (n=b.length)&&(aZ b&&(decide (0≤p)&&(decide (p≤1000000)&&((!pk b p 7==0)&&((!pk b p 7==1)&&(rp2 (pk b p 7==2) ((!x.5)&&true))))))))),[],I46 b n (p+1) x (IntKind.i64.wrap (m-1))):=by kernel_rfl
theorem Y8 (b:List Int) (n:Nat) (p:Int) (x:PK) (m:Int):aC 1 (a8 f46 0) (aA f46 0) (aG tt (a9 T71) ([]) 1 100 (a0 0 (a5 f46)) (I46 b n p x m) [(0,true),(0,false),(0,false),(0,false),(0,true),(0,true),(0,true)])=
  some (.normal,(decide (m>0)&&(decide (n=b.length)&&(aZ b&&(decide (0≤p)&&(decide (p≤1000000)&&((!pk b p 7==0)&&((!pk b p 7==1)&&((!pk b p 7==2)&&(rp2 (pk b p 7==3) ((x.5)&&(decide (n=b.length)&&(aZ b&&(decide (0≤p+1)&&(decide (p+1≤1000000)&&(decide (x.2.length=x.2.length)&&(decide (x.3.length=x.3.length)&&(decide (x.4.length=x.4.length)&&(decide (x.7.length=x.7.length)&&(decide (x.2.length=8)&&(decide (x.3.length=8)&&(decide (x.4.length=8)&&(bet x.6 1 2&&(aE x.7 4&&((bet (pk b (p+1) 8) 0 7)&&true)))))))))))))))))))))))),[],I46 b n (p+1+1) (shR x (pk b (p+1) 8)) (IntKind.i64.wrap (m-1))):=by kernel_rfl
theorem Y9 (b:List Int) (n:Nat) (p:Int) (x:PK) (m:Int):aC 1 (a8 f46 0) (aA f46 0) (aG tt (a9 T71) ([]) 1 100 (a0 0 (a5 f46)) (I46 b n p x m) [(0,true),(0,false),(0,false),(0,false),(0,true),(0,true),(0,false)])=
  some (.normal,(decide (m>0)&&(decide (n=b.length)&&(aZ b&&(decide (0≤p)&&(decide (p≤1000000)&&((!pk b p 7==0)&&((!pk b p 7==1)&&((!pk b p 7==2)&&(rp2 (pk b p 7==3) ((!x.5)&&true)))))))))),[],I46 b n (p+1) x (IntKind.i64.wrap (m-1))):=by kernel_rfl
theorem YA (b:List Int) (n:Nat) (p:Int) (x:PK) (m:Int):aC 1 (a8 f46 0) (aA f46 0) (aG tt (a9 T71) ([]) 1 100 (a0 0 (a5 f46)) (I46 b n p x m) [(0,true),(0,false),(0,false),(0,false),(0,false),(0,true),(0,true)])=
  some (.normal,(decide (m>0)&&(decide (n=b.length)&&(aZ b&&(decide (0≤p)&&(decide (p≤1000000)&&((!pk b p 7==0)&&((!pk b p 7==1)&&((!pk b p 7==2)&&((!pk b p 7==3)&&((pk b p 7==4)&&((x.5)&&(decide (n=b.length)&&(aZ b&&(decide (0≤p+1)&&(decide (p+1≤1000000)&&(decide (x.2.length=x.2.length)&&(decide (x.3.length=x.3.length)&&(decide (x.4.length=x.4.length)&&(decide (x.7.length=x.7.length)&&(decide (x.2.length=8)&&(decide (x.3.length=8)&&(decide (x.4.length=8)&&(bet x.6 1 2&&(aE x.7 4&&((bet (pk b (p+1) 8) 0 7)&&true))))))))))))))))))))))))),[],I46 b n (p+1+1) (shR x (pk b (p+1) 8)) (IntKind.i64.wrap (m-1))):=by kernel_rfl
theorem SR (b:List Int) (n:Nat) (p:Int) (x:PK) (m:Int):aC 1 (a8 f46 0) (aA f46 0) (aG tt (a9 T71) ([]) 1 100 (a0 0 (a5 f46)) (I46 b n p x m) [(0,true),(0,false),(0,false),(0,false),(0,false),(0,true),(0,false)])=
  some (.normal,(decide (m>0)&&(decide (n=b.length)&&(aZ b&&(decide (0≤p)&&(decide (p≤1000000)&&((!pk b p 7==0)&&((!pk b p 7==1)&&((!pk b p 7==2)&&((!pk b p 7==3)&&((pk b p 7==4)&&((!x.5)&&true))))))))))),[],I46 b n (p+1) x (IntKind.i64.wrap (m-1))):=by kernel_rfl
theorem SS (b:List Int) (n:Nat) (p:Int) (x:PK) (m:Int):aC 1 (a8 f46 0) (aA f46 0) (aG tt (a9 T71) ([]) 1 100 (a0 0 (a5 f46)) (I46 b n p x m) [(0,true),(0,false),(0,false),(0,false),(0,false),(0,false),(0,true)])=
  some (.normal,(decide (m>0)&&(decide (n=b.length)&&(aZ b&&(decide (0≤p)&&(decide (p≤1000000)&&((!pk b p 7==0)&&((!pk b p 7==1)&&((!pk b p 7==2)&&((!pk b p 7==3)&&((!pk b p 7==4)&&((pk b p 7==5)&&(decide (n=b.length)&&(aZ b&&(decide (0≤p+1)&&(decide (p+1≤1000000)&&(decide (x.2.length=x.2.length)&&(decide (x.3.length=x.3.length)&&(decide (x.4.length=x.4.length)&&(decide (x.7.length=x.7.length)&&(decide (x.2.length≤274877906944)&&((decide (x.7.length≤274877906944))&&true))))))))))))))))))))),[],I46 b n (p+1+1) (gC x (pk b (p+1) 8)) (IntKind.i64.wrap (m-1))):=by kernel_rfl
theorem ST (b:List Int) (n:Nat) (p:Int) (x:PK) (m:Int):aC 1 (a8 f46 0) (aA f46 0) (aG tt (a9 T71) ([]) 1 100 (a0 0 (a5 f46)) (I46 b n p x m) [(0,true),(0,false),(0,false),(0,false),(0,false),(0,false),(0,false),(0,true)])=
  some (.normal,(decide (m>0)&&(decide (n=b.length)&&(aZ b&&(decide (0≤p)&&(decide (p≤1000000)&&((!pk b p 7==0)&&((!pk b p 7==1)&&((!pk b p 7==2)&&((!pk b p 7==3)&&((!pk b p 7==4)&&((!pk b p 7==5)&&(decide (n=b.length)&&(aZ b&&(decide (0≤p+1)&&(decide (p+1≤1000000)&&((pk b (p+1) 3==0)&&(decide (x.2.length=x.2.length)&&(decide (x.3.length=x.3.length)&&(decide (x.4.length=x.4.length)&&(decide (x.7.length=x.7.length)&&(decide (x.2.length≤274877906944)&&((decide (x.7.length≤274877906944))&&true)))))))))))))))))))))),[],I46 b n (p+1+1) (cF x) (IntKind.i64.wrap (m-1))):=by kernel_rfl
theorem SU (b:List Int) (n:Nat) (p:Int) (x:PK) (m:Int):aC 1 (a8 f46 0) (aA f46 0) (aG tt (a9 T71) ([]) 1 100 (a0 0 (a5 f46)) (I46 b n p x m) [(0,true),(0,false),(0,false),(0,false),(0,false),(0,false),(0,false),(0,false)])=
  some (.normal,(decide (m>0)&&(decide (n=b.length)&&(aZ b&&(decide (0≤p)&&(decide (p≤1000000)&&((!pk b p 7==0)&&((!pk b p 7==1)&&((!pk b p 7==2)&&((!pk b p 7==3)&&((!pk b p 7==4)&&((!pk b p 7==5)&&(decide (n=b.length)&&(aZ b&&(decide (0≤p+1)&&(decide (p+1≤1000000)&&((!pk b (p+1) 3==0)&&true)))))))))))))))),[],I46 b n (p+1+1) x (IntKind.i64.wrap (m-1))):=by kernel_rfl
theorem SV (b:List Int) (n:Nat) (p:Int) (x:PK) (m:Int):aC 1 (a8 f46 0) (aA f46 0) (aG tt (a9 T71) ([]) 1 100 (a0 0 (a5 f46)) (I46 b n p x m) [(0,false)])=
  some (.exit 0,((!decide (m>0))&&true),[],X46 b n (p) x):=by kernel_rfl
end
end Go.Proofs.YthapjdpkelihiaaGreat.Am
