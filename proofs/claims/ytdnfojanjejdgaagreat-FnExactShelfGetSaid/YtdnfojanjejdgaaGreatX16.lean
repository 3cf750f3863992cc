/- DERIVED. Part 16 of the proof: C57, C58, C59, C60, C61, C62, C63, C64, Am33, C65, C66, P10, P11, C67, Am34, C68, C69, C70, C71, C72, C73, C74, L1, Am35, C83, C84, Am39, Am40, Am41, Am42, Am43, B1. No statement of the program is proved here. -/
import Derived.Test.YtdnfojanjejdgaaGreatX15
import Derived.Test.YtdnfojanjejdgaaGreatRows
import Derived.WalkKit
import Derived.ProofKit
import Derived.OpenShut
import Derived.ShutString
import Derived.ChangeOld
import Derived.Below
import Derived.RangeFuncWrites
set_option linter.unusedSimpArgs false
set_option linter.unusedVariables false
set_option linter.unusedSectionVars false
set_option linter.defProp false
namespace Go.Proofs.YtdnfojanjejdgaaGreat.Am
section
theorem N1 {a b:List Int} {c:List Bool} {vs:Int} (ha:a.length=8) (hb:b.length=8) (hc:c.length=8) {i:Nat} (hi:i<8):
  (rsA a b c vs).getD i 0=(if b.getD i 0=vs then 0 else a.getD i 0)∧(rsB a b c vs).getD i 0=(if b.getD i 0=vs then 0 else b.getD i 0)∧(rsC a b c vs).getD i false=(if b.getD i 0=vs then false else c.getD i false):=by
 have gB: ∀(l:List Bool) (a b:Nat) (x:Bool),(l.set a x).getD b false=if a=b∧a<l.length then x else l.getD b false:=fun l a b x=>by
  rw[List.getD_eq_getElem?_getD,List.getElem?_set]
  by_cases h:a=b
  ·subst h
   by_cases h2:a<l.length
   ·simp[h2]
   ·simp[h2,List.getD_eq_getElem?_getD,List.getElem?_eq_none (Nat.le_of_not_lt h2)]
  ·simp[h,List.getD_eq_getElem?_getD]
 have key:=aY (step:=qR vs) (fun n s=>(s.1.length=8∧s.2.1.length=8∧s.2.2.length=8)∧ ∀i,i<8→s.1.getD i 0=(if i<n∧b.getD i 0=vs then 0 else a.getD i 0)∧s.2.1.getD i 0=(if i<n∧b.getD i 0=vs then 0 else b.getD i 0)∧s.2.2.getD i false=(if i<n∧b.getD i 0=vs then false else c.getD i false)) b.length (a,b,c)
  ⟨⟨ha,hb,hc⟩,fun i hi=>by rw[if_neg (by omega),if_neg (by omega),if_neg (by omega)];exact⟨rfl,rfl,rfl⟩⟩ fun n s hn h=>by
  obtain⟨⟨h1,h2,h3⟩,h4⟩:=h
  have hn2:s.2.1.getD n 0=b.getD n 0:=by rw[(h4 n (by omega)).2.1,if_neg (by omega)]
  unfold qR
  rw[hn2]
  cases hq:b.getD n 0==vs with
  |true=>
   have hq':b.getD n 0=vs:=by simpa using hq
   rw[cond_true]
   refine⟨by simp[h1,h2,h3],fun i hi=> ?_⟩
   obtain⟨g1,g2,g3⟩:=h4 i hi
   dsimp only
   rw[bC,bC,gB,g1,g2,g3]
   by_cases e:n=i
   ·subst e
    refine⟨?_, ?_, ?_⟩<;>rw[if_pos ⟨rfl,by omega⟩,if_pos ⟨Nat.lt_succ_self n,hq'⟩]
   ·have:(i<n∧b.getD i 0=vs)↔(i<n+1∧b.getD i 0=vs):=⟨fun h=>⟨by omega,h.2⟩,fun h=>⟨by omega,h.2⟩⟩
    simp only[this]
    refine⟨?_, ?_, ?_⟩<;>rw[if_neg (fun h=>e h.1)]
  |false=>
   have hq':b.getD n 0≠vs:=by simpa using hq
   rw[cond_false]
   refine⟨⟨h1,h2,h3⟩,fun i hi=> ?_⟩
   obtain⟨g1,g2,g3⟩:=h4 i hi
   rw[g1,g2,g3]
   have:(i<n∧b.getD i 0=vs)↔(i<n+1∧b.getD i 0=vs):=⟨fun h=>⟨by omega,h.2⟩,fun h=>⟨by
    by_cases e:i=n
    ·subst e;exact absurd h.2 hq'
    ·omega,h.2⟩⟩
   simp only[this]
   exact⟨trivial,trivial,trivial⟩
 obtain⟨g1,g2,g3⟩:=key.2 i hi
 have:(i<b.length∧b.getD i 0=vs)↔b.getD i 0=vs:=⟨fun h=>h.2,fun h=>⟨by omega,h⟩⟩
 simp only[this]at g1 g2 g3
 exact⟨g1,g2,g3⟩
theorem oD (d:List Int):vok d=bG d 4:=by
 unfold vok bG
 congr 1
theorem H5 {v:List Int} {n:Nat} (hv:v.length=n) (h: ∀i,i<n→fok (v.getD i 0)=true):aD v=true:=by
 simp only[aD,List.all_eq_true]
 intro x hx
 obtain⟨i,hi⟩:=List.getElem?_of_mem hx
 have:=h i (by have:=(List.getElem?_eq_some_iff.1 hi).1;omega)
 rw[List.getD_eq_getElem?_getD,hi]at this
 exact this
theorem t0 (k:Int) (d:List Int) {i:Nat} (hi:i<8):(mC k d).getD i 0=dS k d (i:Int):=by
 match i,hi with
 |0,_|1,_|2,_|3,_|4,_|5,_|6,_|7,_=>rfl
structure KQ (k:Int) (a b:List Int) (c:List Bool) (kd:Int) (d:List Int) (vs:Int):Prop where
 s:Sok k a b c
 rd:rdS k a b c=true
 one:cL (r9 b c) 8 0=true
 kd0:kd=0
 d0:d=[]
 vs0:vs=0
theorem fN {k:Int} {a b:List Int} {c:List Bool} {kd:Int} {d:List Int} {vs:Int}:bT k a b c false kd d vs=true↔KQ k a b c kd d vs:=by
 simp only[bT,cond_false,oY,Bool.and_eq_true,rpS,beq_iff_eq]
 constructor
 ·rintro⟨h1,h2,h3,h4,h5⟩
  unfold srS at h1
  cases hs:bU k a b c with
  |false=>rw[hs]at h1;cases h1
  |true=>
   rw[hs,cond_true]at h1
   have S:=gG.1 hs
   exact⟨S,h1,S.one.2 (by omega),h2,List.eq_nil_of_length_eq_zero (by omega),h4⟩
 ·rintro⟨S,h1,h2,h3,h4,h5⟩
  have hl:=S.one.1 h2
  refine⟨by unfold srS;rw[gG.2 S];exact h1,h3,by rw[h4];rfl,h5, ?_⟩
  unfold rdS at h1
  cases hv:rdV k a b c with
  |none=>rw[hv]at h1;cases h1
  |some x=>
   unfold rdV at hv
   have:=List.mem_of_find?_eq_some hv
   have:=List.length_pos_of_mem this
   omega
structure KR (k:Int) (a b:List Int) (c:List Bool) (kd:Int) (d:List Int) (vs:Int):Prop where
 hd:bG d 4=true
 hkd:bet kd 1 2=true
 hvs:bet vs 1 99=true
 ha:a.length=8
 hb:b.length=8
 hc:c.length=8
 s:Sok k (rsA a b c vs) (rsB a b c vs) (rsC a b c vs)
 one:cL (r9 (rsB a b c vs) (rsC a b c vs)) 8 0=true
 lt:mxL (rsB a b c vs)<vs
 nt: ∀i,i<8→b.getD i 0=vs→c.getD i false=true∧a.getD i 0=dS kd d i
theorem oZ {k:Int} {a b:List Int} {c:List Bool} {kd:Int} {d:List Int} {vs:Int}:bT k a b c true kd d vs=true↔KR k a b c kd d vs:=by
 simp only[bT,cond_true,tX,Bool.and_eq_true,rpS]
 have nt:bG d 4=true→(cL (jT a b c vs (lC kd d)) 8 0=true↔ ∀i,i<8→b.getD i 0=vs→c.getD i false=true∧a.getD i 0=dS kd d i):=fun hd=>by
  rw[rO hd,cF]
  constructor
  ·intro h i hi hv
   have:=h i (by omega) (by omega)
   unfold jT at this
   rw[hv,beq_self_eq_true,cond_true,Bool.and_eq_true,t0 _ _ hi]at this
   exact⟨this.1,by simpa using this.2⟩
  ·intro h i _ hi
   unfold jT
   cases hq:b.getD i 0==vs with
   |false=>rfl
   |true=>
    obtain⟨h1,h2⟩:=h i (by omega) (by simpa using hq)
    rw[cond_true,h1,h2,t0 _ _ (by omega)];simp
 constructor
 ·rintro⟨h1,h2,h3,h4,h5,h6,h7,h8⟩
  obtain⟨ha,hb,hc⟩:=f9.1 h4
  have S:=gG.1 h5
  refine⟨h1,h2,h3,ha,hb,hc,S,S.one.2 ?_, ?_,(nt h1).1 h8⟩
  ·simp only[Bool.not_eq_true',decide_eq_false_iff_not]at h6;omega
  ·simp only[Bool.not_eq_true',decide_eq_false_iff_not]at h7
   rw[S.top]at h7;omega
 ·rintro⟨h1,h2,h3,ha,hb,hc,S,h6,h7,h8⟩
  have hl:=S.one.1 h6
  refine⟨h1,h2,h3,uW ha hb hc,gG.2 S, ?_, ?_,(nt h1).2 h8⟩
  ·rw[Bool.not_eq_true'];exact decide_eq_false (by omega)
  ·rw[Bool.not_eq_true'];exact decide_eq_false (by rw[S.top];omega)
theorem KR.fok {k:Int} {a b:List Int} {c:List Bool} {kd:Int} {d:List Int} {vs:Int} (h:KR k a b c kd d vs):aD a=true:=by
 refine H5 h.ha fun i hi=> ?_
 by_cases e:b.getD i 0=vs
 ·rw[(h.nt i hi e).2];exact k6 _ _ _
 ·have:=(N1 (vs:=vs) h.ha h.hb h.hc hi).1
  rw[if_neg e]at this
  rw[←this];exact aU h.s.hf i
def ksL (k:Int) (a b:List Int) (c:List Bool) (on:Bool) (kd:Int) (d:List Int) (vs:Int):Bool:=bet k 1 2&&(cT a c&&(((b.length:Int)==8)&&(bU k (elL a b c on vs).1 (elL a b c on vs).2.1 (elL a b c on vs).2.2&&(cL (r9 (elL a b c on vs).2.1 (elL a b c on vs).2.2) 8 0&&
 (bif on then bet kd 1 2&&(vok d&&(bet vs (mxL (elL a b c on vs).2.1+1) 99&&cL (jT a b c vs (mC kd d)) 8 0))else l2B k a b c&&(kd==0&&((d.length:Int)==0&&(vs==0))))))))
theorem l8 {v:List Int} {c:List Bool}:cT v c=true↔aD v=true∧v.length=8∧c.length=8:=by
 unfold cT
 rw[Bool.and_eq_true,Bool.and_eq_true,beq_iff_eq,beq_iff_eq]
 exact⟨fun h=>⟨h.1,by omega,by omega⟩,fun h=>⟨h.1,by omega,by omega⟩⟩
theorem UQ (k:Int) (a b:List Int) (c:List Bool) (on:Bool) (kd:Int) (d:List Int) (vs:Int):bT k a b c on kd d vs=ksL k a b c on kd d vs:=by
 rw[Bool.eq_iff_iff]
 cases on with
 |false=>
  rw[fN]
  simp only[ksL,elL,cond_false,Bool.and_eq_true,rpS,beq_iff_eq]
  constructor
  ·rintro⟨S,h1,h2,h3,h4,h5⟩
   exact⟨S.hk,l8.2 ⟨S.hf,S.ha,S.hc⟩,by rw[S.hb];rfl,gG.2 S,h2,by rw[S.rd.2.2];exact h1,h3,by rw[h4];rfl,h5⟩
  ·rintro⟨h1,h2,h3,h4,h5,h6,h7,h8,h9⟩
   have S:=gG.1 h4
   exact⟨S,by rw[←S.rd.2.2];exact h6,h5,h7,List.eq_nil_of_length_eq_zero (by omega),h9⟩
 |true=>
  rw[oZ]
  simp only[ksL,elL,cond_true,Bool.and_eq_true,rpS,beq_iff_eq]
  constructor
  ·intro K
   have hn:=(oZ.2 K)
   simp only[bT,cond_true,tX,Bool.and_eq_true,rpS]at hn
   have h8:=hn.2.2.2.2.2.2.2
   rw[rO K.hd]at h8
   have hv:=bQ.1 K.hvs
   have hl:mxL (bV a b c vs).2.1<vs:=K.lt
   exact⟨K.s.hk,l8.2 ⟨K.fok,K.ha,K.hc⟩,by rw[K.hb];rfl,gG.2 K.s,K.one,K.hkd,by rw[oD];exact K.hd,bQ.2 ⟨by omega,hv.2⟩,h8⟩
  ·rintro⟨h1,h2,h3,h4,h5,h6,h7,h8,h9⟩
   obtain⟨v1,v2,v3⟩:=l8.1 h2
   have hb:b.length=8:=by omega
   rw[oD]at h7
   have hm:=mK (bV a b c vs).2.1
   have hv:=bQ.1 h8
   refine⟨h7,h6,bQ.2 ⟨by omega,hv.2⟩,v2,hb,v3,gG.1 h4,h5,by show mxL (bV a b c vs).2.1<vs;omega,fun i hi hvs=> ?_⟩
   have:=cF.1 h9 i (by omega) (by omega)
   unfold jT at this
   rw[hvs,beq_self_eq_true,cond_true,Bool.and_eq_true,t0 _ _ hi]at this
   exact⟨this.1,by simpa using this.2⟩
theorem l19 (k:Int) (a b:List Int) (c:List Bool) (on:Bool) (kd:Int) (d:List Int) (vs:Int) (a' b':List Int) (c':List Bool) (ha:a'.length=8) (hb:b'.length=8) (hc:c'.length=8):
  aP none Tryz.prog 0 (.block 0 (.loop (aC 0 (aB f19)))) (I19 k a b c on kd d vs a' b' c' 0) fun e t=>e=(bif cL (r9 b' c') 8 0 then .normal else .ret)∧t=bif cL (r9 b' c') 8 0 then X19 k a b c on kd d vs a' b' c' else Y19 k a b c on kd d vs a' b' c':=by
 refine aP.all (ro:=none) hT t59 bE 8 (r9 b' c') (fun i=>I19 k a b c on kd d vs a' b' c' i) (X19 k a b c on kd d vs a' b' c') (Y19 k a b c on kd d vs a' b' c') .ret (.inr rfl) (aE f19 0) (aG f19 0) (fun _=>[]) (fun _ _=>aL.nil) (fun i hi h=> ?_) (fun i hi h=> ?_)
  ⟨_,_,⟨_,_,a26 k a b c on kd d vs a' b' c' (8:Nat),by rfl,by simp⟩⟩
 ·unfold r9 at h
  cases h1:c'.getD i false with
  |false=>
   have e:=a25 k a b c on kd d vs a' b' c' i
   rw[aF (by omega) (by omega),Int.toNat_natCast]at e
   refine⟨_,_,⟨_,_,e, ?_,by simp⟩⟩
   simp only[h1,bS,rpS]
   omega
  |true=>
   rw[h1,cond_true,Bool.not_eq_true']at h
   have e:=a24 k a b c on kd d vs a' b' c' i
   rw[aF (by omega) (by omega),Int.toNat_natCast]at e
   refine⟨_,_,⟨_,_,e, ?_,by simp⟩⟩
   simp only[h1,h,bS,rpS]
   omega
 ·unfold r9 at h
  rw[if_neg (by intro h;cases h)]
  cases h1:c'.getD i false with
  |false=>rw[h1]at h;cases h
  |true=>
   rw[h1,cond_true,Bool.not_eq_false']at h
   have e:=a23 k a b c on kd d vs a' b' c' i
   rw[Int.toNat_natCast]at e
   refine⟨_,_,⟨_,_,e, ?_,by simp⟩⟩
   simp only[h1,h,bS,rpS]
   omega
theorem a9R (k:Int) (a b:List Int) (c:List Bool) (on:Bool) (kd:Int) (d:List Int) (vs:Int) (ev:List Int) (ha:a.length=8) (hb:b.length=8) (hc:c.length=8) (he:ev.length=8):
  aP none Tryz.prog 0 (.block 2 (.loop (aC 2 (aB f19)))) (J19 k a b c on kd d vs 8 ev 0) fun e t=>e=(bif cL (jT a b c vs ev) 8 0 then .normal else .ret)∧t=bif cL (jT a b c vs ev) 8 0 then Z19 else W19:=by
 refine aP.all (ro:=none) hT t59 bE 8 (jT a b c vs ev) (fun i=>J19 k a b c on kd d vs 8 ev i) Z19 W19 .ret (.inr rfl) (aE f19 2) (aG f19 2) (fun _=>[]) (fun _ _=>aL.nil) (fun i hi h=> ?_) (fun i hi h=> ?_)
  ⟨_,_,⟨_,_,a0G k a b c on kd d vs 8 ev (8:Nat),by rfl,by simp⟩⟩
 ·unfold jT at h
  cases h1:b.getD i 0==vs with
  |true=>
   rw[h1,cond_true,Bool.and_eq_true,Bool.not_eq_true']at h
   obtain⟨h2,h3⟩:=h
   have e:=a0E k a b c on kd d vs 8 ev i
   rw[aF (by omega) (by omega),Int.toNat_natCast]at e
   refine⟨_,_,⟨_,_,e, ?_,by simp⟩⟩
   simp only[h1,h2,h3,bS,rpS]
   omega
  |false=>
   have e:=a0F k a b c on kd d vs 8 ev i
   rw[aF (by omega) (by omega),Int.toNat_natCast]at e
   refine⟨_,_,⟨_,_,e, ?_,by simp⟩⟩
   simp only[h1,bS,rpS]
   omega
 ·unfold jT at h
  rw[if_neg (by intro h;cases h)]
  cases h1:b.getD i 0==vs with
  |false=>rw[h1]at h;cases h
  |true=>
   rw[h1,cond_true]at h
   cases h2:c.getD i false with
   |false=>
    have e:=a0C k a b c on kd d vs 8 ev i
    rw[Int.toNat_natCast]at e
    refine⟨_,_,⟨_,_,e, ?_,by simp⟩⟩
    simp only[h1,h2,bS,rpS]
    omega
   |true=>
    rw[h2,Bool.true_and,Bool.not_eq_false']at h
    have e:=a0D k a b c on kd d vs 8 ev i
    rw[Int.toNat_natCast]at e
    refine⟨_,_,⟨_,_,e, ?_,by simp⟩⟩
    simp only[h1,h2,h,bS,rpS]
    omega
end
section
def D0:aO:=fun args h=>
 match args,h with
 |[.agg [.int .i64 k,.view _ (.ints .i64 a) n1 1 _,.view _ (.ints .i64 b) n2 1 _,.view _ (.bools c) n3 1 _,.bool on,.int .i64 kd,.view _ (.ints .i64 d) n4 1 _,.int .i64 vs]],[]=>
  some (.c (.bool (bT k a b c on kd d vs)),[],[decide (a.length≤274877906944),decide (d.length≤274877906944)])
 |_,_=>none
theorem m19:aT Tryz.prog 56 D0:=by
 intro args h res h' o hnorm he ho
 unfold D0 at he
 split at he
 case h_2=>cases he
 rename_i k nl1 a n1 cap1 nl2 b n2 cap2 nl3 c n3 cap3 on kd nl4 d n4 cap4 vs
 simp only[Option.some.injEq,Prod.mk.injEq]at he
 obtain⟨rfl,rfl,rfl⟩:=he
 simp only[List.mem_cons,List.not_mem_nil,or_false,forall_eq_or_imp,forall_eq,decide_eq_true_eq]at ho
 obtain⟨o1,o2⟩:=ho
 simp only[b8,AV.norm,bA,aI.norm,Con.size,List.cons.injEq,AV.c.injEq,AV.agg.injEq,aI.view.injEq,aN,true_and,and_true]at hnorm
 obtain⟨⟨rfl,rfl,rfl⟩,⟨rfl,rfl,rfl⟩,⟨rfl,rfl,rfl⟩,rfl,rfl,rfl⟩:=hnorm
 rw[UQ]
 have st: ∀(x:Bool) (p:gJ) (ob:Bool),(∀lcv,aJ tt (aH T59) lcv 100 f19 [.agg [.int .i64 k,.view none (.ints .i64 a) a.length 1 none,.view none (.ints .i64 b) b.length 1 none,.view none (.bools c) c.length 1 none,.bool on,.int .i64 kd,.view none (.ints .i64 d) d.length 1 none,.int .i64 vs]] [] p=some ⟨.c (.bool x),[],ob,[]⟩)→ob=true→bF Tryz.prog 56 [.agg [.int .i64 k,.view none (.ints .i64 a) a.length 1 none,.view none (.ints .i64 b) b.length 1 none,.view none (.bools c) c.length 1 none,.bool on,.int .i64 kd,.view none (.ints .i64 d) d.length 1 none,.int .i64 vs]] [] (.c (.bool x)) []:=
  fun x p ob h1 h2=>mo t59 (h1 []) h2
 unfold ksL
 cases h1:bet k 1 2 with
 |false=>exact st _ _ _ (a54 k a b c on kd d vs) (by simp only[h1,bS,rpS])
 |true=>
  cases h2:cT a c with
  |false=>exact st _ _ _ (a55 k a b c on kd d vs) (by simp only[h1,h2,o1,bS,rpS])
  |true=>
   cases h3:((b.length:Int)==8)with
   |false=>exact st _ _ _ (a56 k a b c on kd d vs) (by simp only[h1,h2,h3,bne,o1,bS,rpS])
   |true=>
    obtain⟨v1,v2,v3⟩:=l8.1 h2
    have hb:b.length=8:=by have:=beq_iff_eq.1 h3;omega
    obtain⟨z1,z2,z3⟩:=U8 a b c on vs
    cases h4:bU k (elL a b c on vs).1 (elL a b c on vs).2.1 (elL a b c on vs).2.2 with
    |false=>exact st _ _ _ (a57 k a b c on kd d vs) (by simp only[h1,h2,h3,h4,bne,v2,v3,hb,z1,z2,z3,bS,rpS];simp)
    |true=>
     have S:=gG.1 h4
     have g:=l19 k a b c on kd d vs _ _ _ S.ha S.hb S.hc
     cases h5:cL (r9 (elL a b c on vs).2.1 (elL a b c on vs).2.2) 8 0 with
     |false=>
      rw[h5]at g
      exact mo t59 (YK k a b c on kd d vs) (by simp only[h1,h2,h3,h4,bne,v2,v3,hb,z1,z2,z3,bS,rpS];simp) (hlc:=(fun cc hcc=>aL.cons (c:=cc) (by cases hcc;kernel_rfl) (by cases hcc;exact g) aL.nil))
     |true=>
      rw[h5]at g
      have lo: ∀cc,aB f19=cc→aL none Tryz.prog 0 [(0,⟨aE f19 0,I19 k a b c on kd d vs (elL a b c on vs).1 (elL a b c on vs).2.1 (elL a b c on vs).2.2 0,.normal,X19 k a b c on kd d vs (elL a b c on vs).1 (elL a b c on vs).2.1 (elL a b c on vs).2.2⟩)] cc:=fun cc hcc=>by
       subst hcc;exact aL.cons (by kernel_rfl) g aL.nil
      have hm:=S.mx
      have n88:(((8:Nat):Int)==8)=true:=rfl
      have s1: ∀(x:Bool) (p:gJ) (ob:Bool),aJ tt (aH T59) [(0,⟨aE f19 0,I19 k a b c on kd d vs (elL a b c on vs).1 (elL a b c on vs).2.1 (elL a b c on vs).2.2 0,.normal,X19 k a b c on kd d vs (elL a b c on vs).1 (elL a b c on vs).2.1 (elL a b c on vs).2.2⟩)] 100 f19 [.agg [.int .i64 k,.view none (.ints .i64 a) a.length 1 none,.view none (.ints .i64 b) b.length 1 none,.view none (.bools c) c.length 1 none,.bool on,.int .i64 kd,.view none (.ints .i64 d) d.length 1 none,.int .i64 vs]] [] p=some ⟨.c (.bool x),[],ob,[I19 k a b c on kd d vs (elL a b c on vs).1 (elL a b c on vs).2.1 (elL a b c on vs).2.2 0=I19 k a b c on kd d vs (elL a b c on vs).1 (elL a b c on vs).2.1 (elL a b c on vs).2.2 0]⟩→ob=true→bF Tryz.prog 56 [.agg [.int .i64 k,.view none (.ints .i64 a) a.length 1 none,.view none (.ints .i64 b) b.length 1 none,.view none (.bools c) c.length 1 none,.bool on,.int .i64 kd,.view none (.ints .i64 d) d.length 1 none,.int .i64 vs]] [] (.c (.bool x)) []:=
       fun x p ob h1 h2=>mo t59 h1 h2 (hlc:=(fun cc hcc=>lo cc (by cases hcc;rfl)))
      cases ho:on with
      |false=>
       subst ho
       have hm2:mxL b≤99:=hm.2
       cases h6:l2B k a b c with
       |false=>exact s1 _ _ _ (YI k a b c false kd d vs) (by simp only[h1,h2,h3,h4,h6,v1,bne,v2,v3,hb,n88,z1,z2,z3,bS,rpS];omega)
       |true=>
        cases h7:kd==0 with
        |false=>exact s1 _ _ _ (YH k a b c false kd d vs) (by simp only[h1,h2,h3,h4,h6,h7,v1,bne,v2,v3,hb,n88,z1,z2,z3,bS,rpS];omega)
        |true=>
         cases h8:(d.length:Int)==0 with
         |false=>exact s1 _ _ _ (YG k a b c false kd d vs) (by simp only[h1,h2,h3,h4,h6,h7,h8,v1,bne,v2,v3,hb,n88,z1,z2,z3,bS,rpS];omega)
         |true=>
          have e:=YF k a b c false kd d vs
          rw[h6,h7,h8]at e
          exact s1 _ _ _ e (by simp only[h1,h2,h3,h4,h6,h7,h8,v1,bne,v2,v3,hb,n88,z1,z2,z3,bS,rpS];omega)
      |true=>
       subst ho
       cases h6:bet kd 1 2 with
       |false=>exact s1 _ _ _ (YJ k a b c true kd d vs) (by simp only[h1,h2,h3,h4,h6,v1,bne,v2,v3,hb,n88,z1,z2,z3,bS,rpS];omega)
       |true=>
        cases h7:vok d with
        |false=>exact s1 _ _ _ (RR k a b c true kd d vs) (by simp only[h1,h2,h3,h4,h6,h7,v1,bne,v2,v3,hb,n88,z1,z2,z3,bS,rpS];omega)
        |true=>
         have w:IntKind.i64.wrap (mxL (elL a b c true vs).2.1+1)=mxL (elL a b c true vs).2.1+1:=aF (by omega) (by omega)
         cases h8:bet vs (mxL (elL a b c true vs).2.1+1) 99 with
         |false=>exact s1 _ _ _ (RS k a b c true kd d vs) (by simp only[h1,h2,h3,h4,h6,h7,w,h8,v1,bne,v2,v3,hb,n88,z1,z2,z3,bS,rpS];omega)
         |true=>
          have hd:bG d 4=true:=by rw[←oD];exact h7
          have hdf:aD d=true:=by simp only[bG,Bool.and_eq_true,rpS]at hd;exact hd.1
          have hd4:d.length=4:=by simp only[bG,Bool.and_eq_true,rpS,beq_iff_eq]at hd;omega
          have g2:=a9R k a b c true kd d vs (cdL kd d) v2 hb v3 rfl
          rw[sR h6]at g2
          have lo2: ∀(ex:Ex) (po:St) (cc:Code),(aP none Tryz.prog 0 (.block 2 (.loop (aC 2 (aB f19)))) (J19 k a b c true kd d vs 8 (mC kd d) 0) fun e t=>e=ex∧t=po)→aB f19=cc→aL none Tryz.prog 0 [(0,⟨aE f19 0,I19 k a b c true kd d vs (elL a b c true vs).1 (elL a b c true vs).2.1 (elL a b c true vs).2.2 0,.normal,X19 k a b c true kd d vs (elL a b c true vs).1 (elL a b c true vs).2.1 (elL a b c true vs).2.2⟩),(2,⟨aE f19 2,J19 k a b c true kd d vs 8 (cdL kd d) 0,ex,po⟩)] cc:=fun ex po cc gg hcc=>by
           subst hcc;rw[sR h6];exact aL.cons (by kernel_rfl) g (aL.cons (by kernel_rfl) gg aL.nil)
          cases h9:cL (jT a b c vs (mC kd d)) 8 0 with
          |true=>
           rw[h9]at g2
           exact mo t59 (YD k a b c true kd d vs) (by simp only[h1,h2,h3,h4,h6,h7,w,h8,hdf,hd4,v1,bne,v2,v3,hb,n88,z1,z2,z3,bS,rpS];omega) (hlc:=(fun cc hcc=>lo2 _ _ cc g2 (by cases hcc;rfl)))
          |false=>
           rw[h9]at g2
           exact mo t59 (RT k a b c true kd d vs) (by simp only[h1,h2,h3,h4,h6,h7,w,h8,hdf,hd4,v1,bne,v2,v3,hb,n88,z1,z2,z3,bS,rpS];omega) (hlc:=(fun cc hcc=>lo2 _ _ cc g2 (by cases hcc;rfl)))
noncomputable def T61:List aZ:=[⟨56,[],nm D0⟩]++T59
theorem e61:aA Tryz.prog T61:=by
 refine aA.append ?_ e59
 intro e he
 simp only[List.mem_cons,List.not_mem_nil,or_false]at he
 subst he;exact m19.ok
theorem t61:bL Tryz.prog (aH T61):=aQ e61
end
section
theorem HN:aR Tryz.prog 138 (dW tt (aH T61) Tryz.f138 []):=cJ hT t61 bE [] (by kernel_rfl) (by kernel_rfl)
theorem PF:aR Tryz.prog 187 (dW tt (aH T61) Tryz.f187 []):=cJ hT t61 bE [] (by kernel_rfl) (by kernel_rfl)
noncomputable def T62:List aZ:=[⟨138,[],dW tt (aH T61) Tryz.f138 []⟩,⟨187,[],dW tt (aH T61) Tryz.f187 []⟩]++T61
theorem e62:aA Tryz.prog T62:=by
 refine aA.append ?_ e61
 intro e he
 simp only[List.mem_cons,List.not_mem_nil,or_false]at he
 rcases he with rfl|rfl
 ·exact HN
 ·exact PF
theorem t62:bL Tryz.prog (aH T62):=aQ e62
def pU (k:Int) (a b:List Int) (c:List Bool) (on:Bool) (kd:Int) (d:List Int) (vs:Int) (x:Int) (e:List Int):=bt8 (aJ tt (aH T62) ([]) 100 Tryz.f186 [.agg [.int .i64 k,.view none (.ints .i64 a) a.length 1 none,.view none (.ints .i64 b) b.length 1 none,.view none (.bools c) c.length 1 none,.bool on,.int .i64 kd,.view none (.ints .i64 d) d.length 1 none,.int .i64 vs],.c (.int .i64 x),.c (.view none (.ints .i64 e) e.length 1 none)] []) (!bif !bT k a b c on kd d vs then true else !bet x 1 2) ([.agg [.int .i64 0,.nils,.nils,.nils,.bool false,.int .i64 0,.nils,.int .i64 0],.c (.bool false)]:List AV) ([.agg [.int .i64 k,.sl 0 0 a.length 1 none,.sl 1 0 b.length 1 none,.sl 2 0 c.length 1 none,.bool on,.int .i64 kd,.sl 3 0 d.length 1 none,.int .i64 vs],.c (.bool false)]:List AV) (!bif bif !bT k a b c on kd d vs then true else !bet x 1 2 then true else !vok e) (!!bT k a b c on kd d vs) ([.live (.ints .i64 a),.live (.ints .i64 b),.live (.bools c),.live (.ints .i64 d)]:List aV) (!bT k a b c on kd d vs) (P:=fun q0 q1 q2 q3 q4 q5 q6 q7=>q0 [(0,true)]=
  some ⟨.tup q2,[],(decide (a.length≤274877906944)&&(decide (d.length≤274877906944)&&(rp3 q7 (q7&&true)))),[]⟩∧q0 [(0,false),(0,true)]=
  some ⟨.tup q2,[],(decide (a.length≤274877906944)&&(decide (d.length≤274877906944)&&(rp3 q5 (rp4 (bif !bT k a b c on kd d vs then true else !bet x 1 2) true)))),[]⟩∧q0 [(0,false),(0,false),(0,true)]=
  some ⟨.tup q2,[],(decide (a.length≤274877906944)&&(decide (d.length≤274877906944)&&(rp3 q5 (rp2 q1 (decide (e.length≤274877906944)&&(q1&&((bif bif !bT k a b c on kd d vs then true else !bet x 1 2 then true else !vok e)&&true))))))),[]⟩∧q0 [(0,false),(0,false),(0,false),(0,true)]=
  some ⟨.tup q3,q6,(decide (a.length≤274877906944)&&(decide (d.length≤274877906944)&&(rp3 q5 (rp2 q1 (decide (e.length≤274877906944)&&(q1&&(q4&&(decide (a.length≤274877906944)&&(decide (b.length≤274877906944)&&(decide (c.length≤274877906944)&&(decide (d.length≤274877906944)&&(rp5 (on) true)))))))))))),[]⟩∧q0 [(0,false),(0,false),(0,false),(0,false),(0,true)]=
  some ⟨.tup q3,q6,(decide (a.length≤274877906944)&&(decide (d.length≤274877906944)&&(rp3 q5 (rp2 q1 (decide (e.length≤274877906944)&&(q1&&(q4&&(decide (a.length≤274877906944)&&(decide (b.length≤274877906944)&&(decide (c.length≤274877906944)&&(decide (d.length≤274877906944)&&(rp3 (!on) (decide (b.length≤274877906944)&&((!on)&&((bif on then true else decide (mxL b≥99))&&true))))))))))))))),[]⟩∧q0 [(0,false),(0,false),(0,false),(0,false),(0,false)]=
  some ⟨.tup [.agg [.int .i64 k,.sl 0 0 a.length 1 none,.sl 1 0 b.length 1 none,.sl 2 0 c.length 1 none,.bool true,.int .i64 x,.sl 3 0 (0+e.length) 1 none,.int .i64 (IntKind.i64.wrap (mxL b+1))],.c (.bool true)],[.live (.ints .i64 a),.live (.ints .i64 b),.live (.bools c),.live (.ints .i64 ([]++e))],(decide (a.length≤274877906944)&&(decide (d.length≤274877906944)&&(rp3 q5 (rp2 q1 (decide (e.length≤274877906944)&&(q1&&(q4&&(decide (a.length≤274877906944)&&(decide (b.length≤274877906944)&&(decide (c.length≤274877906944)&&(decide (d.length≤274877906944)&&(rp3 (!on) (decide (b.length≤274877906944)&&((!on)&&((!bif on then true else decide (mxL b≥99))&&(decide (0+e.length≤274877906944)&&((decide (b.length≤274877906944))&&true))))))))))))))))),[]⟩) ⟨by kernel_rfl,by kernel_rfl,by kernel_rfl,by kernel_rfl,by kernel_rfl,by kernel_rfl⟩
def a5F (k:Int) (a b:List Int) (c:List Bool) (on:Bool) (kd:Int) (d:List Int) (vs:Int) (x:Int) (e:List Int):=(pU k a b c on kd d vs x e).1
def a5G (k:Int) (a b:List Int) (c:List Bool) (on:Bool) (kd:Int) (d:List Int) (vs:Int) (x:Int) (e:List Int):=(pU k a b c on kd d vs x e).2.1
def a5H (k:Int) (a b:List Int) (c:List Bool) (on:Bool) (kd:Int) (d:List Int) (vs:Int) (x:Int) (e:List Int):=(pU k a b c on kd d vs x e).2.2.1
def a5I (k:Int) (a b:List Int) (c:List Bool) (on:Bool) (kd:Int) (d:List Int) (vs:Int) (x:Int) (e:List Int):=(pU k a b c on kd d vs x e).2.2.2.1
def a5J (k:Int) (a b:List Int) (c:List Bool) (on:Bool) (kd:Int) (d:List Int) (vs:Int) (x:Int) (e:List Int):=(pU k a b c on kd d vs x e).2.2.2.2.1
def a5K (k:Int) (a b:List Int) (c:List Bool) (on:Bool) (kd:Int) (d:List Int) (vs:Int) (x:Int) (e:List Int):=(pU k a b c on kd d vs x e).2.2.2.2.2
def NP (k:Int) (a b:List Int) (c:List Bool) (on:Bool) (kd:Int) (d:List Int) (vs:Int):=bt1 (aJ tt (aH T62) ([]) 100 Tryz.f115 [.agg [.int .i64 k,.view none (.ints .i64 a) a.length 1 none,.view none (.ints .i64 b) b.length 1 none,.view none (.bools c) c.length 1 none,.bool on,.int .i64 kd,.view none (.ints .i64 d) d.length 1 none,.int .i64 vs]] []) (P:=fun q0=>q0 [(0,true)]=
  some ⟨.c (.sl 0 0 (0+d.length) 1 none),[.live (.ints .i64 ([]++d))],((on)&&((decide (0+d.length≤274877906944))&&true)),[]⟩∧q0 [(0,false)]=
  some ⟨.c (.sl 0 0 (l2D k a b c).length 1 none),[.live (.ints .i64 (l2D k a b c))],((!on)&&(bet k 1 2&&(decide (a.length=8)&&(aD a&&(decide (b.length=8)&&(decide (c.length=8)&&((decide (mxL b≤1000))&&true))))))),[]⟩) ⟨by kernel_rfl,by kernel_rfl⟩
def a6R (k:Int) (a b:List Int) (c:List Bool) (on:Bool) (kd:Int) (d:List Int) (vs:Int):=(NP k a b c on kd d vs).1
def a6S (k:Int) (a b:List Int) (c:List Bool) (on:Bool) (kd:Int) (d:List Int) (vs:Int):=(NP k a b c on kd d vs).2
def vE (k:Int) (a b:List Int) (c:List Bool) (on:Bool) (kd:Int) (d:List Int) (vs:Int) (x:Int):=E6 (aJ tt (aH T62) ([]) 100 Tryz.f127 [.agg [.int .i64 k,.view none (.ints .i64 a) a.length 1 none,.view none (.ints .i64 b) b.length 1 none,.view none (.bools c) c.length 1 none,.bool on,.int .i64 kd,.view none (.ints .i64 d) d.length 1 none,.int .i64 vs],.c (.int .i64 x)] []) (decide (a.length≤274877906944)&&(decide (b.length≤274877906944)&&(decide (c.length≤274877906944)&&(decide (0≤x)&&(decide (x<(↑a.length:Int))&&(decide (x.toNat<a.length)&&(decide (0≤x)&&(decide (x<(↑b.length:Int))&&(decide (x.toNat<b.length)&&(decide (0≤x)&&(decide (x<(↑c.length:Int))&&(decide (x.toNat<c.length)&&true)))))))))))) ([.int .i64 k,.sl 0 0 a.length 1 none,.sl 1 0 b.length 1 none,.sl 2 0 c.length 1 none,.bool on,.int .i64 kd,.sl 3 0 d.length 1 none,.int .i64 vs]:List aI) (a.set x.toNat 0) (b.set x.toNat 0) (c.set x.toNat false) (!bif !bT k a b c on kd d vs then true else !bet x 0 7) (!!bT k a b c on kd d vs) ([.int .i64 0,.nils,.nils,.nils,.bool false,.int .i64 0,.nils,.int .i64 0]:List aI) (!bT k a b c on kd d vs) (P:=fun q0 q1 q2 q3 q4 q5 q6 q7 q8 q9=>q0 [(0,true)]=
  some ⟨.agg q8,[],(decide (a.length≤274877906944)&&(decide (d.length≤274877906944)&&(rp3 q9 (q9&&true)))),[]⟩∧q0 [(0,false),(0,true)]=
  some ⟨.agg q8,[],(decide (a.length≤274877906944)&&(decide (d.length≤274877906944)&&(rp3 q7 ((bif !bT k a b c on kd d vs then true else !bet x 0 7)&&true)))),[]⟩∧q0 [(0,false),(0,false),(0,true),(0,true)]=
  some ⟨.agg q2,[.live (.ints .i64 a),.live (.ints .i64 b),.live (.bools c),.live (.ints .i64 d)],(decide (a.length≤274877906944)&&(decide (d.length≤274877906944)&&(rp3 q7 (q6&&(decide (a.length≤274877906944)&&(decide (b.length≤274877906944)&&(decide (c.length≤274877906944)&&(decide (d.length≤274877906944)&&(q1&&(decide (a.length=q3.length)&&(decide (b.length=q4.length)&&(decide (c.length=q5.length)&&(bet k 1 2&&(decide (q3.length=8)&&(aD q3&&(decide (q4.length=8)&&(decide (q5.length=8)&&(decide (mxL q4≤1000)&&(rp2 (!on) ((bif !on then !l2B k q3 q4 q5 else false)&&(decide (a.length≤274877906944)&&(decide (b.length≤274877906944)&&(decide (c.length≤274877906944)&&((decide (d.length≤274877906944))&&true)))))))))))))))))))))))),[]⟩∧q0 [(0,false),(0,false),(0,true),(0,false)]=
  some ⟨.agg q2,[.live (.ints .i64 q3),.live (.ints .i64 q4),.live (.bools q5),.live (.ints .i64 d)],(decide (a.length≤274877906944)&&(decide (d.length≤274877906944)&&(rp3 q7 (q6&&(decide (a.length≤274877906944)&&(decide (b.length≤274877906944)&&(decide (c.length≤274877906944)&&(decide (d.length≤274877906944)&&(q1&&(decide (a.length=q3.length)&&(decide (b.length=q4.length)&&(decide (c.length=q5.length)&&(bet k 1 2&&(decide (q3.length=8)&&(aD q3&&(decide (q4.length=8)&&(decide (q5.length=8)&&(decide (mxL q4≤1000)&&(rp2 (!on) ((!bif !on then !l2B k q3 q4 q5 else false)&&true)))))))))))))))))))),[]⟩∧q0 [(0,false),(0,false),(0,false)]=
  some ⟨.agg q2,[.live (.ints .i64 q3),.live (.ints .i64 q4),.live (.bools q5),.live (.ints .i64 d)],(decide (a.length≤274877906944)&&(decide (d.length≤274877906944)&&(rp3 q7 (q6&&(decide (a.length≤274877906944)&&(decide (b.length≤274877906944)&&(decide (c.length≤274877906944)&&(decide (d.length≤274877906944)&&(q1&&(decide (a.length=q3.length)&&(decide (b.length=q4.length)&&(decide (c.length=q5.length)&&(bet k 1 2&&(decide (q3.length=8)&&(aD q3&&(decide (q4.length=8)&&(decide (q5.length=8)&&(decide (mxL q4≤1000)&&(rp3 (!!on) true))))))))))))))))))),[]⟩) ⟨by kernel_rfl,by kernel_rfl,by kernel_rfl,by kernel_rfl,by kernel_rfl⟩
def a6V (k:Int) (a b:List Int) (c:List Bool) (on:Bool) (kd:Int) (d:List Int) (vs:Int) (x:Int):=(vE k a b c on kd d vs x).1
def a6W (k:Int) (a b:List Int) (c:List Bool) (on:Bool) (kd:Int) (d:List Int) (vs:Int) (x:Int):=(vE k a b c on kd d vs x).2.1
def a6X (k:Int) (a b:List Int) (c:List Bool) (on:Bool) (kd:Int) (d:List Int) (vs:Int) (x:Int):=(vE k a b c on kd d vs x).2.2.1
def a6Y (k:Int) (a b:List Int) (c:List Bool) (on:Bool) (kd:Int) (d:List Int) (vs:Int) (x:Int):=(vE k a b c on kd d vs x).2.2.2.1
def a6Z (k:Int) (a b:List Int) (c:List Bool) (on:Bool) (kd:Int) (d:List Int) (vs:Int) (x:Int):=(vE k a b c on kd d vs x).2.2.2.2
def vD (k:Int) (a b:List Int) (c:List Bool) (on:Bool) (kd:Int) (d:List Int) (vs:Int) (x:Int):=E6 (aJ tt (aH T62) ([]) 100 Tryz.f79 [.agg [.int .i64 k,.view none (.ints .i64 a) a.length 1 none,.view none (.ints .i64 b) b.length 1 none,.view none (.bools c) c.length 1 none,.bool on,.int .i64 kd,.view none (.ints .i64 d) d.length 1 none,.int .i64 vs],.c (.int .i64 x)] []) (decide (0≤x)&&(decide (x<(↑a.length:Int))&&(decide (x.toNat<a.length)&&(decide (0≤x)&&(decide (x<(↑b.length:Int))&&(decide (x.toNat<b.length)&&(decide (0≤x)&&(decide (x<(↑c.length:Int))&&(decide (x.toNat<c.length)&&true))))))))) ([.int .i64 k,.sl 0 0 a.length 1 none,.sl 1 0 b.length 1 none,.sl 2 0 c.length 1 none,.bool on,.int .i64 kd,.sl 3 0 d.length 1 none,.int .i64 vs]:List aI) (c.set x.toNat false) (a.set x.toNat 0) (b.set x.toNat 0) (!bif !bT k a b c on kd d vs then true else !bet x 0 7) (!!bT k a b c on kd d vs) ([.int .i64 0,.nils,.nils,.nils,.bool false,.int .i64 0,.nils,.int .i64 0]:List aI) (!bT k a b c on kd d vs) (P:=fun q0 q1 q2 q3 q4 q5 q6 q7 q8 q9=>q0 [(0,true)]=
  some ⟨.agg q8,[],(decide (d.length≤274877906944)&&(rp3 q9 (q9&&true))),[]⟩∧q0 [(0,false),(0,true)]=
  some ⟨.agg q8,[],(decide (d.length≤274877906944)&&(rp3 q7 ((bif !bT k a b c on kd d vs then true else !bet x 0 7)&&true))),[]⟩∧q0 [(0,false),(0,false),(0,true),(0,true)]=
  some ⟨.agg q2,[.live (.ints .i64 a),.live (.ints .i64 b),.live (.bools c),.live (.ints .i64 d)],(decide (d.length≤274877906944)&&(rp3 q7 (q6&&(decide (a.length≤274877906944)&&(decide (b.length≤274877906944)&&(decide (c.length≤274877906944)&&(decide (d.length≤274877906944)&&(q1&&(decide (a.length=q4.length)&&(decide (b.length=q5.length)&&(decide (c.length=q3.length)&&(decide (q3.length=8)&&(decide (q5.length=8)&&(decide (q4.length=8)&&(bet k 1 2&&(aD q4&&(rp3 (!rdS k q4 q5 q3) ((bif !rdS k q4 q5 q3 then !on else false)&&(decide (a.length≤274877906944)&&(decide (b.length≤274877906944)&&(decide (c.length≤274877906944)&&((decide (d.length≤274877906944))&&true)))))))))))))))))))))),[]⟩∧q0 [(0,false),(0,false),(0,true),(0,false)]=
  some ⟨.agg q2,[.live (.ints .i64 q4),.live (.ints .i64 q5),.live (.bools q3),.live (.ints .i64 d)],(decide (d.length≤274877906944)&&(rp3 q7 (q6&&(decide (a.length≤274877906944)&&(decide (b.length≤274877906944)&&(decide (c.length≤274877906944)&&(decide (d.length≤274877906944)&&(q1&&(decide (a.length=q4.length)&&(decide (b.length=q5.length)&&(decide (c.length=q3.length)&&(decide (q3.length=8)&&(decide (q5.length=8)&&(decide (q4.length=8)&&(bet k 1 2&&(aD q4&&(rp3 (!rdS k q4 q5 q3) ((!bif !rdS k q4 q5 q3 then !on else false)&&true)))))))))))))))))),[]⟩∧q0 [(0,false),(0,false),(0,false)]=
  some ⟨.agg q2,[.live (.ints .i64 q4),.live (.ints .i64 q5),.live (.bools q3),.live (.ints .i64 d)],(decide (d.length≤274877906944)&&(rp3 q7 (q6&&(decide (a.length≤274877906944)&&(decide (b.length≤274877906944)&&(decide (c.length≤274877906944)&&(decide (d.length≤274877906944)&&(q1&&(decide (a.length=q4.length)&&(decide (b.length=q5.length)&&(decide (c.length=q3.length)&&(decide (q3.length=8)&&(decide (q5.length=8)&&(decide (q4.length=8)&&(bet k 1 2&&(aD q4&&(rp3 (!!rdS k q4 q5 q3) ((!!rdS k q4 q5 q3)&&true)))))))))))))))))),[]⟩) ⟨by kernel_rfl,by kernel_rfl,by kernel_rfl,by kernel_rfl,by kernel_rfl⟩
def a61 (k:Int) (a b:List Int) (c:List Bool) (on:Bool) (kd:Int) (d:List Int) (vs:Int) (x:Int):=(vD k a b c on kd d vs x).1
def a62 (k:Int) (a b:List Int) (c:List Bool) (on:Bool) (kd:Int) (d:List Int) (vs:Int) (x:Int):=(vD k a b c on kd d vs x).2.1
def a63 (k:Int) (a b:List Int) (c:List Bool) (on:Bool) (kd:Int) (d:List Int) (vs:Int) (x:Int):=(vD k a b c on kd d vs x).2.2.1
def a64 (k:Int) (a b:List Int) (c:List Bool) (on:Bool) (kd:Int) (d:List Int) (vs:Int) (x:Int):=(vD k a b c on kd d vs x).2.2.2.1
def a65 (k:Int) (a b:List Int) (c:List Bool) (on:Bool) (kd:Int) (d:List Int) (vs:Int) (x:Int):=(vD k a b c on kd d vs x).2.2.2.2
def FF (k:Int) (a b:List Int) (c:List Bool) (on:Bool) (kd:Int) (d:List Int) (vs:Int):=a8M ((((a.set 0 (dL (bH kd 0) d)).set 1 (dL (bH kd 1) d)).set 2 (dL (bH kd 2) d)).set 3 (dL (bH kd 3) d)) ((((c.set 0 true).set 1 true).set 2 true).set 3 true) ((((b.set 0 vs).set 1 vs).set 2 vs).set 3 vs) (aJ tt (aH T62) ([]) 100 Tryz.f135 [.agg [.int .i64 k,.view none (.ints .i64 a) a.length 1 none,.view none (.ints .i64 b) b.length 1 none,.view none (.bools c) c.length 1 none,.bool on,.int .i64 kd,.view none (.ints .i64 d) d.length 1 none,.int .i64 vs]] []) ((a.set 0 (dL (bH kd 0) d)).set 1 (dL (bH kd 1) d)) (dL (bH kd 4) d) (dL (bH kd 5) d) ((c.set 0 true).set 1 true) ((b.set 0 vs).set 1 vs) (dL (bH kd 6) d) (a.set 0 (dL (bH kd 0) d)) (dL (bH kd 2) d) (dL (bH kd 7) d) (c.set 0 true) (b.set 0 vs) (P:=fun q0 q1 q2 q3 q4 q5 q6 q7 q8 q9 q10 q11 q12 q13 q14=>q3 [(0,true)]=
  some ⟨.agg [.int .i64 0,.nils,.nils,.nils,.bool false,.int .i64 0,.nils,.int .i64 0],[],(decide (a.length≤274877906944)&&(decide (d.length≤274877906944)&&((!bT k a b c on kd d vs)&&true))),[]⟩∧q3 [(0,false),(0,true)]=
  some ⟨.agg [.int .i64 k,.sl 0 0 a.length 1 none,.sl 1 0 b.length 1 none,.sl 2 0 c.length 1 none,.bool on,.int .i64 kd,.sl 3 0 d.length 1 none,.int .i64 vs],[.live (.ints .i64 a),.live (.ints .i64 b),.live (.bools c),.live (.ints .i64 d)],(decide (a.length≤274877906944)&&(decide (d.length≤274877906944)&&(!!bT k a b c on kd d vs&&((!on)&&(decide (a.length≤274877906944)&&(decide (b.length≤274877906944)&&(decide (c.length≤274877906944)&&((decide (d.length≤274877906944))&&true)))))))),[]⟩∧q3 [(0,false),(0,false)]=
  some ⟨.agg [.int .i64 kd,.sl 0 0 ((((q0.set 4 q5).set 5 q6).set 6 q9).set 7 q12).length 1 none,.sl 1 0 ((((q2.set 4 vs).set 5 vs).set 6 vs).set 7 vs).length 1 none,.sl 2 0 ((((q1.set 4 true).set 5 true).set 6 true).set 7 true).length 1 none,.bool false,.int .i64 0,.sl 3 0 0 1 none,.int .i64 0],[.live (.ints .i64 ((((q0.set 4 q5).set 5 q6).set 6 q9).set 7 q12)),.live (.ints .i64 ((((q2.set 4 vs).set 5 vs).set 6 vs).set 7 vs)),.live (.bools ((((q1.set 4 true).set 5 true).set 6 true).set 7 true)),.live (.ints .i64 [])],(decide (a.length≤274877906944)&&(decide (d.length≤274877906944)&&(!!bT k a b c on kd d vs&&((!!on)&&((decide (a.length≤274877906944)&&(decide (b.length≤274877906944)&&(decide (c.length≤274877906944)&&(decide (d.length≤274877906944)&&(bet kd 1 2&&(decide (d.length=4)&&(aD d&&(decide (0<(↑a.length:Int))&&(decide (0<a.length)&&(decide (0<(↑b.length:Int))&&(decide (0<b.length)&&(decide (0<(↑c.length:Int))&&(decide (0<c.length)&&true)))))))))))))&&(decide (a.length=q10.length)&&(decide (b.length=q14.length)&&(decide (c.length=q13.length)&&(decide (d.length=d.length)&&((decide (q10.length≤274877906944)&&(decide (q14.length≤274877906944)&&(decide (q13.length≤274877906944)&&(decide (d.length≤274877906944)&&(bet kd 1 2&&(decide (d.length=4)&&(aD d&&(decide (1<(↑q10.length:Int))&&(decide (1<q10.length)&&(decide (1<(↑q14.length:Int))&&(decide (1<q14.length)&&(decide (1<(↑q13.length:Int))&&(decide (1<q13.length)&&true)))))))))))))&&(decide (q10.length=q4.length)&&(decide (q14.length=q8.length)&&(decide (q13.length=q7.length)&&(decide (d.length=d.length)&&((decide (q4.length≤274877906944)&&(decide (q8.length≤274877906944)&&(decide (q7.length≤274877906944)&&(decide (d.length≤274877906944)&&(bet kd 1 2&&(decide (d.length=4)&&(aD d&&(decide (2<(↑q4.length:Int))&&(decide (2<q4.length)&&(decide (2<(↑q8.length:Int))&&(decide (2<q8.length)&&(decide (2<(↑q7.length:Int))&&(decide (2<q7.length)&&true)))))))))))))&&(decide (q4.length=(q4.set 2 q11).length)&&(decide (q8.length=(q8.set 2 vs).length)&&(decide (q7.length=(q7.set 2 true).length)&&(decide (d.length=d.length)&&((decide ((q4.set 2 q11).length≤274877906944)&&(decide ((q8.set 2 vs).length≤274877906944)&&(decide ((q7.set 2 true).length≤274877906944)&&(decide (d.length≤274877906944)&&(bet kd 1 2&&(decide (d.length=4)&&(aD d&&(decide (3<(↑(q4.set 2 q11).length:Int))&&(decide (3<(q4.set 2 q11).length)&&(decide (3<(↑(q8.set 2 vs).length:Int))&&(decide (3<(q8.set 2 vs).length)&&(decide (3<(↑(q7.set 2 true).length:Int))&&(decide (3<(q7.set 2 true).length)&&true)))))))))))))&&(decide ((q4.set 2 q11).length=q0.length)&&(decide ((q8.set 2 vs).length=q2.length)&&(decide ((q7.set 2 true).length=q1.length)&&(decide (d.length=d.length)&&((decide (q0.length≤274877906944)&&(decide (q2.length≤274877906944)&&(decide (q1.length≤274877906944)&&(decide (d.length≤274877906944)&&(bet kd 1 2&&(decide (d.length=4)&&(aD d&&(decide (4<(↑q0.length:Int))&&(decide (4<q0.length)&&(decide (4<(↑q2.length:Int))&&(decide (4<q2.length)&&(decide (4<(↑q1.length:Int))&&(decide (4<q1.length)&&true)))))))))))))&&(decide (q0.length=(q0.set 4 q5).length)&&(decide (q2.length=(q2.set 4 vs).length)&&(decide (q1.length=(q1.set 4 true).length)&&(decide (d.length=d.length)&&((decide ((q0.set 4 q5).length≤274877906944)&&(decide ((q2.set 4 vs).length≤274877906944)&&(decide ((q1.set 4 true).length≤274877906944)&&(decide (d.length≤274877906944)&&(bet kd 1 2&&(decide (d.length=4)&&(aD d&&(decide (5<(↑(q0.set 4 q5).length:Int))&&(decide (5<(q0.set 4 q5).length)&&(decide (5<(↑(q2.set 4 vs).length:Int))&&(decide (5<(q2.set 4 vs).length)&&(decide (5<(↑(q1.set 4 true).length:Int))&&(decide (5<(q1.set 4 true).length)&&true)))))))))))))&&(decide ((q0.set 4 q5).length=((q0.set 4 q5).set 5 q6).length)&&(decide ((q2.set 4 vs).length=((q2.set 4 vs).set 5 vs).length)&&(decide ((q1.set 4 true).length=((q1.set 4 true).set 5 true).length)&&(decide (d.length=d.length)&&((decide (((q0.set 4 q5).set 5 q6).length≤274877906944)&&(decide (((q2.set 4 vs).set 5 vs).length≤274877906944)&&(decide (((q1.set 4 true).set 5 true).length≤274877906944)&&(decide (d.length≤274877906944)&&(bet kd 1 2&&(decide (d.length=4)&&(aD d&&(decide (6<(↑((q0.set 4 q5).set 5 q6).length:Int))&&(decide (6<((q0.set 4 q5).set 5 q6).length)&&(decide (6<(↑((q2.set 4 vs).set 5 vs).length:Int))&&(decide (6<((q2.set 4 vs).set 5 vs).length)&&(decide (6<(↑((q1.set 4 true).set 5 true).length:Int))&&(decide (6<((q1.set 4 true).set 5 true).length)&&true)))))))))))))&&(decide (((q0.set 4 q5).set 5 q6).length=(((q0.set 4 q5).set 5 q6).set 6 q9).length)&&(decide (((q2.set 4 vs).set 5 vs).length=(((q2.set 4 vs).set 5 vs).set 6 vs).length)&&(decide (((q1.set 4 true).set 5 true).length=(((q1.set 4 true).set 5 true).set 6 true).length)&&(decide (d.length=d.length)&&((decide ((((q0.set 4 q5).set 5 q6).set 6 q9).length≤274877906944)&&(decide ((((q2.set 4 vs).set 5 vs).set 6 vs).length≤274877906944)&&(decide ((((q1.set 4 true).set 5 true).set 6 true).length≤274877906944)&&(decide (d.length≤274877906944)&&(bet kd 1 2&&(decide (d.length=4)&&(aD d&&(decide (7<(↑(((q0.set 4 q5).set 5 q6).set 6 q9).length:Int))&&(decide (7<(((q0.set 4 q5).set 5 q6).set 6 q9).length)&&(decide (7<(↑(((q2.set 4 vs).set 5 vs).set 6 vs).length:Int))&&(decide (7<(((q2.set 4 vs).set 5 vs).set 6 vs).length)&&(decide (7<(↑(((q1.set 4 true).set 5 true).set 6 true).length:Int))&&(decide (7<(((q1.set 4 true).set 5 true).set 6 true).length)&&true)))))))))))))&&(decide ((((q0.set 4 q5).set 5 q6).set 6 q9).length=((((q0.set 4 q5).set 5 q6).set 6 q9).set 7 q12).length)&&(decide ((((q2.set 4 vs).set 5 vs).set 6 vs).length=((((q2.set 4 vs).set 5 vs).set 6 vs).set 7 vs).length)&&(decide ((((q1.set 4 true).set 5 true).set 6 true).length=((((q1.set 4 true).set 5 true).set 6 true).set 7 true).length)&&(decide (d.length=d.length)&&((decide (((((q0.set 4 q5).set 5 q6).set 6 q9).set 7 q12).length≤274877906944)&&(decide (((((q2.set 4 vs).set 5 vs).set 6 vs).set 7 vs).length≤274877906944)&&(decide (((((q1.set 4 true).set 5 true).set 6 true).set 7 true).length≤274877906944)&&(decide (d.length≤274877906944)&&true))))&&true))))))))))))))))))))))))))))))))))))))))))))),[]⟩) ⟨by kernel_rfl,by kernel_rfl,by kernel_rfl⟩
def a51 (k:Int) (a b:List Int) (c:List Bool) (on:Bool) (kd:Int) (d:List Int) (vs:Int):=(FF k a b c on kd d vs).1
def a52 (k:Int) (a b:List Int) (c:List Bool) (on:Bool) (kd:Int) (d:List Int) (vs:Int):=(FF k a b c on kd d vs).2.1
def a53 (k:Int) (a b:List Int) (c:List Bool) (on:Bool) (kd:Int) (d:List Int) (vs:Int):=(FF k a b c on kd d vs).2.2
end
section
theorem yM {d:List Int} (h:bG d 4=true):aD d=true∧d.length=4:=by
 simp only[bG,Bool.and_eq_true,rpS,beq_iff_eq]at h
 exact⟨h.1,by omega⟩
theorem KS {k:Int} {a b:List Int} {c:List Bool} {on:Bool} {kd:Int} {d:List Int} {vs:Int} (h:bT k a b c on kd d vs=true):bet k 1 2=true∧aD a=true∧ ∀i,i<8→0≤b.getD i 0∧b.getD i 0≤99:=by
 cases on with
 |false=>
  have K:=fN.1 h
  exact⟨K.s.hk,K.s.hf,fun i hi=>K.s.bnd hi⟩
 |true=>
  have K:=oZ.1 h
  have hv:=bQ.1 K.hvs
  refine⟨K.s.hk,K.fok,fun i hi=> ?_⟩
  by_cases e:b.getD i 0=vs
  ·omega
  ·have:=K.s.bnd hi
   rw[(N1 K.ha K.hb K.hc hi).2.1,if_neg e]at this
   exact this
theorem S6 {b:List Int} {n:Int} (h0:0≤n) (h: ∀i,i<b.length→b.getD i 0≤n):mxL b≤n:=by
 rcases(nL b).2 with e|⟨i,hi,e⟩
 ·omega
 ·have:=h i hi;omega
theorem X0 {b:List Int} {n x:Int} {j:Nat} (h0:0≤n) (hx:x≤n) (h: ∀i,i<b.length→b.getD i 0≤n):mxL (b.set j x)≤n:=S6 h0 fun i hi=>by
 rw[List.length_set]at hi
 rw[bC]
 split
 ·exact hx
 ·exact h i hi
theorem oU (l:List Bool) (a b:Nat) (x:Bool):(l.set a x).getD b false=if a=b∧a<l.length then x else l.getD b false:=by
 rw[List.getD_eq_getElem?_getD,List.getElem?_set]
 by_cases h:a=b
 ·subst h
  by_cases h2:a<l.length
  ·simp[h2]
  ·simp[h2,List.getD_eq_getElem?_getD,List.getElem?_eq_none (Nat.le_of_not_lt h2)]
 ·simp[h,List.getD_eq_getElem?_getD]
theorem Sok.drop {k:Int} {a b:List Int} {c:List Bool} (h:Sok k a b c) (x:Nat):Sok k (a.set x 0) (b.set x 0) (c.set x false):=by
 refine⟨h.hk,by rw[List.length_set];exact h.ha,by rw[List.length_set];exact h.hb,by rw[List.length_set];exact h.hc,dG h.hf rfl,fun i hi hc=> ?_,fun i hi hc=> ?_⟩
 ·rw[oU]at hc
  have hne: ¬(x=i∧x<c.length):=fun e=>by rw[if_pos e]at hc;cases hc
  rw[if_neg hne]at hc
  have hxi:x≠i:=fun e=>hne ⟨e,by have:=h.hc;omega⟩
  obtain⟨t1,t2⟩:=h.th i hi hc
  have e:(b.set x 0).getD i 0=b.getD i 0:=by rw[bC,if_neg (fun h=>hxi h.1)]
  rw[e]
  refine⟨t1, ?_⟩
  have F:=(n8 (by rw[bY];exact h.hc)).1 t2
  refine qG h.hk (by rw[bY,List.length_set];exact h.hc) (d:=eR k a (flg (bJ b c (b.getD i 0)))) fun j hj hm=> ?_
  rw[fY _ _ _ _ (by rw[List.length_set,h.hc];exact hj),oU,Bool.and_eq_true]at hm
  have hxj:x≠j:=fun e=>by
   have:=hm.1
   rw[if_pos ⟨e,by have:=h.hc;omega⟩]at this;cases this
  rw[if_neg (fun h=>hxj h.1),bC,if_neg (fun h=>hxj h.1)]at hm
  rw[bC,if_neg (fun h=>hxj h.1)]
  exact F j hj (by rw[fY _ _ _ _ (by rw[h.hc];exact hj),hm.1,hm.2];rfl)
 ·rw[bC,bC]
  by_cases e:x=i
  ·rw[if_pos ⟨e,by have:=h.ha;omega⟩,if_pos ⟨e,by have:=h.hb;omega⟩];exact⟨rfl,rfl⟩
  ·rw[if_neg (fun h=>e h.1),if_neg (fun h=>e h.1)]
   rw[oU,if_neg (fun h=>e h.1)]at hc
   exact h.no i hi hc
def CQ:aO:=fun args h=>
 match args,h with
 |[.agg [.int .i64 k,.view _ (.ints .i64 a) n1 1 _,.view _ (.ints .i64 b) n2 1 _,.view _ (.bools c) n3 1 _,.bool on,.int .i64 kd,.view _ (.ints .i64 d) n4 1 _,.int .i64 vs],.c (.int .i64 x),.c (.view _ (.ints .i64 e) n5 1 _)],[]=>
  some (.tup [.agg (mB ⟨k,a,b,c,on,kd,d,vs⟩ x e).cells,.c (.bool (E5 ⟨k,a,b,c,on,kd,d,vs⟩ x e))],[.live (.ints .i64 (mB ⟨k,a,b,c,on,kd,d,vs⟩ x e).a),.live (.ints .i64 (mB ⟨k,a,b,c,on,kd,d,vs⟩ x e).b),.live (.bools (mB ⟨k,a,b,c,on,kd,d,vs⟩ x e).c),.live (.ints .i64 (mB ⟨k,a,b,c,on,kd,d,vs⟩ x e).d)],[decide (a.length≤274877906944),decide (d.length≤274877906944),decide (e.length≤274877906944)])
 |_,_=>none
theorem m35:aT Tryz.prog 186 CQ:=by
 intro args h res h' o hnorm he ho
 unfold CQ at he
 split at he
 case h_2=>cases he
 rename_i k nl1 a n1 cap1 nl2 b n2 cap2 nl3 c n3 cap3 on kd nl4 d n4 cap4 vs x nl5 e n5 cap5
 simp only[Option.some.injEq,Prod.mk.injEq]at he
 obtain⟨rfl,rfl,rfl⟩:=he
 simp only[List.mem_cons,List.not_mem_nil,or_false,forall_eq_or_imp,forall_eq,decide_eq_true_eq]at ho
 obtain⟨o1,o2,o3⟩:=ho
 simp only[b8,AV.norm,bA,aI.norm,Con.size,List.cons.injEq,AV.c.injEq,AV.agg.injEq,aI.view.injEq,aN,true_and,and_true]at hnorm
 obtain⟨⟨⟨rfl,rfl,rfl⟩,⟨rfl,rfl,rfl⟩,⟨rfl,rfl,rfl⟩,rfl,rfl,rfl⟩,rfl,rfl,rfl⟩:=hnorm
 unfold mB E5 PK.ok
 dsimp only
 cases h:bT k a b c on kd d vs with
 |false=>exact iW (mo t62 (a5F k a b c on kd d vs x e) (by simp only[h,o1,o2,bS,rpS]))
 |true=>
  obtain⟨ha,hb,hc⟩:=dV h
  cases hx:bet x 1 2 with
  |false=>exact iW (mo t62 (a5G k a b c on kd d vs x e) (by simp only[h,hx,o1,o2,bS,rpS]))
  |true=>
   have hve:=oD e
   cases he:bG e 4 with
   |false=>exact iW (mo t62 (a5H k a b c on kd d vs x e) (by simp only[h,hx,hve,he,o1,o2,o3,bS,rpS]))
   |true=>
    cases ho:on with
    |true=>
     subst ho
     exact mo t62 (a5I k a b c true kd d vs x e) (by simp only[h,hx,hve,he,o2,o3,ha,hb,hc,bS,rpS];simp)
    |false=>
     subst ho
     have K:=fN.1 h
     have hm:=K.s.mx
     rw[K.s.top]
     cases hT:mxL b==99 with
     |true=>
      have hT':mxL b≥99:=by have:=beq_iff_eq.1 hT;omega
      exact mo t62 (a5J k a b c false kd d vs x e) (by simp only[h,hx,hve,he,hT',o2,o3,ha,hb,hc,bS,rpS];simp)
     |false=>
      have hT': ¬mxL b≥99:=fun h=>by
       have:mxL b=99:=by omega
       rw[this]at hT;cases hT
      have e6:=a5K k a b c false kd d vs x e
      rw[aF (by omega) (by omega),Nat.zero_add]at e6
      exact mo t62 e6 (by simp only[h,hx,hve,he,hT',o2,o3,ha,hb,hc,bS,rpS];simp[o3])
def kP:aO:=fun args h=>
 match args,h with
 |[.agg [.int .i64 k,.view _ (.ints .i64 a) n1 1 _,.view _ (.ints .i64 b) n2 1 _,.view _ (.bools c) n3 1 _,.bool on,.int .i64 kd,.view _ (.ints .i64 d) n4 1 _,.int .i64 vs]],[]=>
  some (.c (.sl 0 0 (bif on then d else l2D k a b c).length 1 none),[.live (.ints .i64 (bif on then d else l2D k a b c))],[decide (d.length≤274877906944),on||bet k 1 2&&(decide (a.length=8)&&(aD a&&(decide (b.length=8)&&(decide (c.length=8)&&decide (mxL b≤1000)))))])
 |_,_=>none
theorem m93:aT Tryz.prog 115 kP:=by
 intro args h res h' o hnorm he ho
 unfold kP at he
 split at he
 case h_2=>cases he
 rename_i k nl1 a n1 cap1 nl2 b n2 cap2 nl3 c n3 cap3 on kd nl4 d n4 cap4 vs
 simp only[Option.some.injEq,Prod.mk.injEq]at he
 obtain⟨rfl,rfl,rfl⟩:=he
 simp only[List.mem_cons,List.not_mem_nil,or_false,forall_eq_or_imp,forall_eq,decide_eq_true_eq]at ho
 obtain⟨o1,o2⟩:=ho
 simp only[b8,AV.norm,bA,aI.norm,Con.size,List.cons.injEq,AV.c.injEq,AV.agg.injEq,aI.view.injEq,aN,true_and,and_true]at hnorm
 obtain⟨⟨rfl,rfl,rfl⟩,⟨rfl,rfl,rfl⟩,⟨rfl,rfl,rfl⟩,rfl,rfl,rfl⟩:=hnorm
 cases ho:on with
 |true=>
  have e:=a6R k a b c true kd d vs
  rw[Nat.zero_add]at e
  exact mo t62 e (by simp[o1])
 |false=>
  rw[ho,Bool.false_or]at o2
  simp only[Bool.and_eq_true,rpS]at o2
  exact mo t62 (a6S k a b c false kd d vs) (by simp[o2])
def xY:aO:=fun args h=>
 match args,h with
 |[.agg [.int .i64 k,.view _ (.ints .i64 a) n1 1 _,.view _ (.ints .i64 b) n2 1 _,.view _ (.bools c) n3 1 _,.bool on,.int .i64 kd,.view _ (.ints .i64 d) n4 1 _,.int .i64 vs]],[]=>
  some (.agg (iR ⟨k,a,b,c,on,kd,d,vs⟩).cells,[.live (.ints .i64 (iR ⟨k,a,b,c,on,kd,d,vs⟩).a),.live (.ints .i64 (iR ⟨k,a,b,c,on,kd,d,vs⟩).b),.live (.bools (iR ⟨k,a,b,c,on,kd,d,vs⟩).c),.live (.ints .i64 (iR ⟨k,a,b,c,on,kd,d,vs⟩).d)],[decide (a.length≤274877906944),decide (d.length≤274877906944)])
 |_,_=>none
theorem m18:aT Tryz.prog 135 xY:=by
 intro args h res h' o hnorm he ho
 unfold xY at he
 split at he
 case h_2=>cases he
 rename_i k nl1 a n1 cap1 nl2 b n2 cap2 nl3 c n3 cap3 on kd nl4 d n4 cap4 vs
 simp only[Option.some.injEq,Prod.mk.injEq]at he
 obtain⟨rfl,rfl,rfl⟩:=he
 simp only[List.mem_cons,List.not_mem_nil,or_false,forall_eq_or_imp,forall_eq,decide_eq_true_eq]at ho
 obtain⟨o1,o2⟩:=ho
 simp only[b8,AV.norm,bA,aI.norm,Con.size,List.cons.injEq,AV.c.injEq,AV.agg.injEq,aI.view.injEq,aN,true_and,and_true]at hnorm
 obtain⟨⟨rfl,rfl,rfl⟩,⟨rfl,rfl,rfl⟩,⟨rfl,rfl,rfl⟩,rfl,rfl,rfl⟩:=hnorm
 unfold iR PK.ok
 dsimp only
 cases h:bT k a b c on kd d vs with
 |false=>exact xJ (h:=[]) (mo t62 (a51 k a b c on kd d vs) (by simp only[h,o1,o2];rfl))
 |true=>
  obtain⟨ha,hb,hc⟩:=dV h
  cases ho:on with
  |false=>subst ho;exact mo t62 (a52 k a b c false kd d vs) (by simp only[h,o2,ha,hb,hc,bS,rpS];simp)
  |true=>
   obtain⟨h1,h2,h3⟩:=EM h ho
   obtain⟨hf,hd4⟩:=yM h1
   subst ho
   have e:=a53 k a b c true kd d vs
   rw[JA ha,JA hb,JA hc]at e
   have mm:=mo (f:=135) t62 e (by simp only[h,h1,h2,hf,hd4,List.length_set,ha,hb,hc,bS,rpS];simp)
   have ec:cdL kd d=lC kd d:=by rw[sR h2,rO h1]
   unfold cdL at ec
   rw[ec]at mm
   rw[ha,hb,hc]at mm⊢
   exact mm
def xV:aO:=fun args h=>
 match args,h with
 |[.agg [.int .i64 k,.view _ (.ints .i64 a) n1 1 _,.view _ (.ints .i64 b) n2 1 _,.view _ (.bools c) n3 1 _,.bool on,.int .i64 kd,.view _ (.ints .i64 d) n4 1 _,.int .i64 vs],.c (.int .i64 x)],[]=>
  some (.agg (jL ⟨k,a,b,c,on,kd,d,vs⟩ x).cells,[.live (.ints .i64 (jL ⟨k,a,b,c,on,kd,d,vs⟩ x).a),.live (.ints .i64 (jL ⟨k,a,b,c,on,kd,d,vs⟩ x).b),.live (.bools (jL ⟨k,a,b,c,on,kd,d,vs⟩ x).c),.live (.ints .i64 (jL ⟨k,a,b,c,on,kd,d,vs⟩ x).d)],[decide (a.length≤274877906944),decide (d.length≤274877906944)])
 |_,_=>none
theorem m97:aT Tryz.prog 127 xV:=by
 intro args h res h' o hnorm he ho
 unfold xV at he
 split at he
 case h_2=>cases he
 rename_i k nl1 a n1 cap1 nl2 b n2 cap2 nl3 c n3 cap3 on kd nl4 d n4 cap4 vs x
 simp only[Option.some.injEq,Prod.mk.injEq]at he
 obtain⟨rfl,rfl,rfl⟩:=he
 simp only[List.mem_cons,List.not_mem_nil,or_false,forall_eq_or_imp,forall_eq,decide_eq_true_eq]at ho
 obtain⟨o1,o2⟩:=ho
 simp only[b8,AV.norm,bA,aI.norm,Con.size,List.cons.injEq,AV.c.injEq,AV.agg.injEq,aI.view.injEq,aN,true_and,and_true]at hnorm
 obtain⟨⟨rfl,rfl,rfl⟩,⟨rfl,rfl,rfl⟩,⟨rfl,rfl,rfl⟩,rfl,rfl,rfl⟩:=hnorm
 unfold jL wG PK.ok
 dsimp only
 cases h:bT k a b c on kd d vs with
 |false=>exact xJ (h:=[]) (mo t62 (a6V k a b c on kd d vs x) (by simp only[h,o1,o2];rfl))
 |true=>
  obtain⟨ha,hb,hc⟩:=dV h
  obtain⟨hk,hf,hbb⟩:=KS h
  cases hx:bet x 0 7 with
  |false=>exact xJ (h:=[]) (mo t62 (a6W k a b c on kd d vs x) (by simp only[h,hx,o1,o2,bS,rpS]))
  |true=>
   have hx':=bQ.1 hx
   have hmx:mxL (b.set x.toNat 0)≤99:=X0 (by omega) (by omega) fun i hi=>(hbb i (by omega)).2
   have hfs:aD (a.set x.toNat 0)=true:=dG hf rfl
   have e1:(a.set x.toNat 0).length=a.length:=List.length_set
   have e2:(b.set x.toNat 0).length=b.length:=List.length_set
   have e3:(c.set x.toNat false).length=c.length:=List.length_set
   cases ho:on with
   |true=>
    subst ho
    rw[Bool.not_true,Bool.and_false]
    have mm:=mo (f:=127) t62 (a6Z k a b c true kd d vs x) (by simp only[h,hx,hk,hfs,e1,e2,e3,ha,hb,hc,bS,rpS];omega)
    show bF _ _ _ _ (.agg [.int .i64 k,.sl 0 0 (a.set x.toNat 0).length 1 none,.sl 1 0 (b.set x.toNat 0).length 1 none,.sl 2 0 (c.set x.toNat false).length 1 none,.bool true,.int .i64 kd,.sl 3 0 d.length 1 none,.int .i64 vs]) _
    rw[e1,e2,e3]
    exact mm
   |false=>
    subst ho
    have K:=fN.1 h
    have hr:=(K.s.drop x.toNat).rd.2.2
    rw[Bool.not_false,Bool.and_true,←hr]
    cases hq:l2B k (a.set x.toNat 0) (b.set x.toNat 0) (c.set x.toNat false)with
    |false=>exact mo t62 (a6X k a b c false kd d vs x) (by simp only[h,hx,hq,hk,hfs,e1,e2,e3,ha,hb,hc,bS,rpS];omega)
    |true=>
     have mm:=mo (f:=127) t62 (a6Y k a b c false kd d vs x) (by simp only[h,hx,hq,hk,hfs,e1,e2,e3,ha,hb,hc,bS,rpS];omega)
     show bF _ _ _ _ (.agg [.int .i64 k,.sl 0 0 (a.set x.toNat 0).length 1 none,.sl 1 0 (b.set x.toNat 0).length 1 none,.sl 2 0 (c.set x.toNat false).length 1 none,.bool false,.int .i64 kd,.sl 3 0 d.length 1 none,.int .i64 vs]) _
     rw[e1,e2,e3]
     exact mm
def D3:aO:=fun args h=>
 match args,h with
 |[.agg [.int .i64 k,.view _ (.ints .i64 a) n1 1 _,.view _ (.ints .i64 b) n2 1 _,.view _ (.bools c) n3 1 _,.bool on,.int .i64 kd,.view _ (.ints .i64 d) n4 1 _,.int .i64 vs],.c (.int .i64 x)],[]=>
  some (.agg (jL ⟨k,a,b,c,on,kd,d,vs⟩ x).cells,[.live (.ints .i64 (jL ⟨k,a,b,c,on,kd,d,vs⟩ x).a),.live (.ints .i64 (jL ⟨k,a,b,c,on,kd,d,vs⟩ x).b),.live (.bools (jL ⟨k,a,b,c,on,kd,d,vs⟩ x).c),.live (.ints .i64 (jL ⟨k,a,b,c,on,kd,d,vs⟩ x).d)],[decide (d.length≤274877906944)])
 |_,_=>none
theorem m45:aT Tryz.prog 79 D3:=by
 intro args h res h' o hnorm he ho
 unfold D3 at he
 split at he
 case h_2=>cases he
 rename_i k nl1 a n1 cap1 nl2 b n2 cap2 nl3 c n3 cap3 on kd nl4 d n4 cap4 vs x
 simp only[Option.some.injEq,Prod.mk.injEq]at he
 obtain⟨rfl,rfl,rfl⟩:=he
 simp only[List.mem_cons,List.not_mem_nil,or_false,forall_eq_or_imp,forall_eq,decide_eq_true_eq]at ho
 have o2:=ho
 simp only[b8,AV.norm,bA,aI.norm,Con.size,List.cons.injEq,AV.c.injEq,AV.agg.injEq,aI.view.injEq,aN,true_and,and_true]at hnorm
 obtain⟨⟨rfl,rfl,rfl⟩,⟨rfl,rfl,rfl⟩,⟨rfl,rfl,rfl⟩,rfl,rfl,rfl⟩:=hnorm
 unfold jL wG PK.ok
 dsimp only
 cases h:bT k a b c on kd d vs with
 |false=>exact xJ (h:=[]) (mo t62 (a61 k a b c on kd d vs x) (by simp only[h,o2];rfl))
 |true=>
  obtain⟨ha,hb,hc⟩:=dV h
  obtain⟨hk,hf,hbb⟩:=KS h
  cases hx:bet x 0 7 with
  |false=>exact xJ (h:=[]) (mo t62 (a62 k a b c on kd d vs x) (by simp only[h,hx,o2,bS,rpS]))
  |true=>
   have hx':=bQ.1 hx
   have hfs:aD (a.set x.toNat 0)=true:=dG hf rfl
   have e1:(a.set x.toNat 0).length=a.length:=List.length_set
   have e2:(b.set x.toNat 0).length=b.length:=List.length_set
   have e3:(c.set x.toNat false).length=c.length:=List.length_set
   cases hq:rdS k (a.set x.toNat 0) (b.set x.toNat 0) (c.set x.toNat false)with
   |false=>
    cases ho:on with
    |true=>
     subst ho
     have mm:=mo (f:=79) t62 (a64 k a b c true kd d vs x) (by simp only[h,hx,hq,hk,hfs,e1,e2,e3,ha,hb,hc,bS,rpS];omega)
     show bF _ _ _ _ (.agg [.int .i64 k,.sl 0 0 (a.set x.toNat 0).length 1 none,.sl 1 0 (b.set x.toNat 0).length 1 none,.sl 2 0 (c.set x.toNat false).length 1 none,.bool true,.int .i64 kd,.sl 3 0 d.length 1 none,.int .i64 vs]) _
     rw[e1,e2,e3]
     exact mm
    |false=>
     subst ho
     exact mo t62 (a63 k a b c false kd d vs x) (by simp only[h,hx,hq,hk,hfs,e1,e2,e3,ha,hb,hc,bS,rpS];omega)
   |true=>
    have mm:=mo (f:=79) t62 (a65 k a b c on kd d vs x) (by simp only[h,hx,hq,hk,hfs,e1,e2,e3,ha,hb,hc,bS,rpS];omega)
    show bF _ _ _ _ (.agg [.int .i64 k,.sl 0 0 (a.set x.toNat 0).length 1 none,.sl 1 0 (b.set x.toNat 0).length 1 none,.sl 2 0 (c.set x.toNat false).length 1 none,.bool on,.int .i64 kd,.sl 3 0 d.length 1 none,.int .i64 vs]) _
    rw[e1,e2,e3]
    exact mm
end
section
noncomputable def T63:List aZ:=[⟨186,[],nm CQ⟩,⟨115,[],nm kP⟩,⟨135,[],nm xY⟩,⟨127,[],nm xV⟩,⟨79,[],nm D3⟩]++T62
theorem e63:aA Tryz.prog T63:=by
 refine aA.append ?_ e62
 intro e he
 simp only[List.mem_cons,List.not_mem_nil,or_false]at he
 rcases he with rfl|rfl|rfl|rfl|rfl
 ·exact m35.ok
 ·exact m93.ok
 ·exact m18.ok
 ·exact m97.ok
 ·exact m45.ok
theorem t63:bL Tryz.prog (aH T63):=aQ e63
def zW (k:Int) (a b:List Int) (c:List Bool) (on:Bool) (kd:Int) (d:List Int) (vs:Int) (x:Int):=bt7 (mB {k:=k,a:=a,b:=b,c:=c,on:=on,kd:=kd,d:=d,vs:=vs} x (bif on then d else l2D k a b c)) (aJ tt (aH T63) ([]) 100 Tryz.f134 [.agg [.int .i64 k,.view none (.ints .i64 a) a.length 1 none,.view none (.ints .i64 b) b.length 1 none,.view none (.bools c) c.length 1 none,.bool on,.int .i64 kd,.view none (.ints .i64 d) d.length 1 none,.int .i64 vs],.c (.int .i64 x)] []) ([.agg [.int .i64 0,.nils,.nils,.nils,.bool false,.int .i64 0,.nils,.int .i64 0],.c (.bool false)]:List AV) (bif on then d else l2D k a b c) (!bif !bT k a b c on kd d vs then true else !bet x 1 2) (!!bT k a b c on kd d vs) (!bT k a b c on kd d vs) (P:=fun q0 q1 q2 q3 q4 q5 q6=>q1 [(0,true)]=
  some ⟨.tup q2,[],(decide (a.length≤274877906944)&&(decide (d.length≤274877906944)&&(rp3 q6 (q6&&true)))),[]⟩∧q1 [(0,false),(0,true)]=
  some ⟨.tup q2,[],(decide (a.length≤274877906944)&&(decide (d.length≤274877906944)&&(rp3 q5 ((bif !bT k a b c on kd d vs then true else !bet x 1 2)&&true)))),[]⟩∧q1 [(0,false),(0,false),(0,true)]=
  some ⟨.tup [.agg [.int .i64 k,.sl 0 0 a.length 1 none,.sl 1 0 b.length 1 none,.sl 2 0 c.length 1 none,.bool on,.int .i64 kd,.sl 3 0 d.length 1 none,.int .i64 vs],.c (.bool false)],[.live (.ints .i64 a),.live (.ints .i64 b),.live (.bools c),.live (.ints .i64 d)],(decide (a.length≤274877906944)&&(decide (d.length≤274877906944)&&(rp3 q5 (q4&&((k==x)&&(decide (a.length≤274877906944)&&(decide (b.length≤274877906944)&&(decide (c.length≤274877906944)&&((decide (d.length≤274877906944))&&true))))))))),[]⟩∧q1 [(0,false),(0,false),(0,false)]=
  some ⟨.tup [.agg [.int .i64 q0.k,.sl 0 0 q0.a.length 1 none,.sl 1 0 q0.b.length 1 none,.sl 2 0 q0.c.length 1 none,.bool q0.on,.int .i64 q0.kd,.sl 3 0 q0.d.length 1 none,.int .i64 q0.vs],.c (.bool (E5 {k:=k,a:=a,b:=b,c:=c,on:=on,kd:=kd,d:=d,vs:=vs} x q3))],[.live (.ints .i64 q0.a),.live (.ints .i64 q0.b),.live (.bools q0.c),.live (.ints .i64 q0.d)],(decide (a.length≤274877906944)&&(decide (d.length≤274877906944)&&(rp3 q5 (q4&&((!k==x)&&(decide (d.length≤274877906944)&&((on||bet k 1 2&&(decide (a.length=8)&&(aD a&&(decide (b.length=8)&&(decide (c.length=8)&&decide (mxL b≤1000))))))&&(decide (q3.length=q3.length)&&(decide (a.length≤274877906944)&&(decide (d.length≤274877906944)&&((decide (q3.length≤274877906944))&&true))))))))))),[]⟩) ⟨by kernel_rfl,by kernel_rfl,by kernel_rfl,by kernel_rfl⟩
def a5T (k:Int) (a b:List Int) (c:List Bool) (on:Bool) (kd:Int) (d:List Int) (vs:Int) (x:Int):=(zW k a b c on kd d vs x).1
def a5U (k:Int) (a b:List Int) (c:List Bool) (on:Bool) (kd:Int) (d:List Int) (vs:Int) (x:Int):=(zW k a b c on kd d vs x).2.1
def a5V (k:Int) (a b:List Int) (c:List Bool) (on:Bool) (kd:Int) (d:List Int) (vs:Int) (x:Int):=(zW k a b c on kd d vs x).2.2.1
def a5W (k:Int) (a b:List Int) (c:List Bool) (on:Bool) (kd:Int) (d:List Int) (vs:Int) (x:Int):=(zW k a b c on kd d vs x).2.2.2
end
section
def KE:aO:=fun args h=>
 match args,h with
 |[.agg [.int .i64 k,.view _ (.ints .i64 a) n1 1 _,.view _ (.ints .i64 b) n2 1 _,.view _ (.bools c) n3 1 _,.bool on,.int .i64 kd,.view _ (.ints .i64 d) n4 1 _,.int .i64 vs],.c (.int .i64 x)],[]=>
  some (.tup [.agg (tbK ⟨k,a,b,c,on,kd,d,vs⟩ x).cells,.c (.bool (tbB ⟨k,a,b,c,on,kd,d,vs⟩ x))],[.live (.ints .i64 (tbK ⟨k,a,b,c,on,kd,d,vs⟩ x).a),.live (.ints .i64 (tbK ⟨k,a,b,c,on,kd,d,vs⟩ x).b),.live (.bools (tbK ⟨k,a,b,c,on,kd,d,vs⟩ x).c),.live (.ints .i64 (tbK ⟨k,a,b,c,on,kd,d,vs⟩ x).d)],[decide (a.length≤274877906944),decide (d.length≤274877906944)])
 |_,_=>none
theorem m41:aT Tryz.prog 134 KE:=by
 intro args h res h' o hnorm he ho
 unfold KE at he
 split at he
 case h_2=>cases he
 rename_i k nl1 a n1 cap1 nl2 b n2 cap2 nl3 c n3 cap3 on kd nl4 d n4 cap4 vs x
 simp only[Option.some.injEq,Prod.mk.injEq]at he
 obtain⟨rfl,rfl,rfl⟩:=he
 simp only[List.mem_cons,List.not_mem_nil,or_false,forall_eq_or_imp,forall_eq,decide_eq_true_eq]at ho
 obtain⟨o1,o2⟩:=ho
 simp only[b8,AV.norm,bA,aI.norm,Con.size,List.cons.injEq,AV.c.injEq,AV.agg.injEq,aI.view.injEq,aN,true_and,and_true]at hnorm
 obtain⟨⟨rfl,rfl,rfl⟩,⟨rfl,rfl,rfl⟩,⟨rfl,rfl,rfl⟩,rfl,rfl,rfl⟩:=hnorm
 unfold tbK tbB PK.ok
 dsimp only
 cases h:bT k a b c on kd d vs with
 |false=>exact iW (mo t63 (a5T k a b c on kd d vs x) (by simp only[h,o1,o2,bS,rpS]))
 |true=>
  obtain⟨ha,hb,hc⟩:=dV h
  obtain⟨hk,hf,hbb⟩:=KS h
  cases hx:bet x 1 2 with
  |false=>exact iW (mo t63 (a5U k a b c on kd d vs x) (by simp only[h,hx,o1,o2,bS,rpS]))
  |true=>
   cases hq:k==x with
   |true=>exact mo t63 (a5V k a b c on kd d vs x) (by simp only[h,hx,hq,o2,ha,hb,hc,bS,rpS];simp)
   |false=>
    have er:krD k a b c on kd d vs=bif on then d else l2D k a b c:=by
     unfold krD
     rw[h,cond_true]
     cases ho:on with
     |true=>rw[cond_true,cond_true]
     |false=>subst ho;rw[cond_false,cond_false,(fN.1 h).s.rd.1]
    have hl:=yR k a b c on kd d vs o2
    have hm:mxL b≤99:=S6 (by omega) fun i hi=>(hbb i (by omega)).2
    have hm':mxL b≤1000:=by omega
    have e:=a5W k a b c on kd d vs x
    rw[←er]at e
    have ob:(on||bet k 1 2&&(decide (a.length=8)&&(aD a&&(decide (b.length=8)&&(decide (c.length=8)&&decide (mxL b≤1000))))))=true:=by rw[hk,hf,ha,hb,hc,decide_eq_true hm'];simp
    exact mo t63 e (by simp only[h,hx,hq,ob,hl,o1,o2,bS,rpS])
noncomputable def T64:List aZ:=[⟨134,[],nm KE⟩]++T63
theorem e64:aA Tryz.prog T64:=by
 refine aA.append ?_ e63
 intro e he
 simp only[List.mem_cons,List.not_mem_nil,or_false]at he
 subst he;exact m41.ok
end
section
noncomputable def T65:List aZ:=[]++T64
theorem e65:aA Tryz.prog T65:=by
 refine aA.append ?_ e64
 intro e he
 cases he
end
section
def pkY (b:List Int) (p:Int):Int:=b.getD (p%(b.length:Int)).toNat 0*131+b.getD ((p*7+3)%(b.length:Int)).toNat 0*1117+p*29+p/(b.length:Int)*53
def pk (b:List Int) (p x:Int):Int:=bif decide (x<1)||((b.length:Int)==0)then 0 else bif decide (p<(b.length:Int))then b.getD p.toNat 0%x else(((pkY b p).toNat^^^(pkY b p/64).toNat:Nat):Int)%x
theorem i4 {a n:Int} (h:0≤a):a.tmod n=a%n:=Int.tmod_eq_emod_of_nonneg h
theorem R8 {a n:Int} (h:0≤a):a.tdiv n=a/n:=Int.tdiv_eq_ediv_of_nonneg h
noncomputable def T66:List aZ:=[]++T65
theorem e66:aA Tryz.prog T66:=by
 refine aA.append ?_ e65
 intro e he
 cases he
end
section
end
section
theorem p2 (p:Int):p+1+1=p+2:=by omega
theorem p3 (p:Int):p+2+1=p+3:=by omega
theorem p4 (p:Int):p+3+1=p+4:=by omega
noncomputable def T67:List aZ:=[]++T66
theorem e67:aA Tryz.prog T67:=by
 refine aA.append ?_ e66
 intro e he
 cases he
theorem t67:bL Tryz.prog (aH T67):=aQ e67
def YB (x:Int):=bt2 (IntKind.i64.wrap ((IntKind.i64.wrap ((IntKind.i64.wrap ((IntKind.i64.wrap (x.tdiv 2)).tdiv 2)).tdiv 2)).tdiv 2)) (IntKind.i64.wrap ((IntKind.i64.wrap (x.tdiv 2)).tdiv 2)) (P:=fun q0 q1=>(aJ tt (aH T67) ([]) 100 Tryz.f266 [.c (.int .i64 x)] []) []=
  some ⟨.c (.sl 0 0 8 1 none),[.live (.bools [x.tmod 2==1,(IntKind.i64.wrap (x.tdiv 2)).tmod 2==1,q1.tmod 2==1,(IntKind.i64.wrap (q1.tdiv 2)).tmod 2==1,q0.tmod 2==1,(IntKind.i64.wrap (q0.tdiv 2)).tmod 2==1,(IntKind.i64.wrap ((IntKind.i64.wrap (q0.tdiv 2)).tdiv 2)).tmod 2==1,(IntKind.i64.wrap ((IntKind.i64.wrap ((IntKind.i64.wrap (q0.tdiv 2)).tdiv 2)).tdiv 2)).tmod 2==1])],true,[]⟩) (by kernel_rfl)
def st8 (x:Int):List Bool:=[x%2==1,x/2%2==1,x/4%2==1,x/8%2==1,x/16%2==1,x/32%2==1,x/64%2==1,x/128%2==1]
theorem EH {x:Int} (h0:0≤x) (h1:x≤1000000):IntKind.i64.wrap (x.tdiv 2)=x/2:=by rw[R8 h0];exact aF (by omega) (by omega)
def K8:aO:=fun args h=>
 match args,h with
 |[.c (.int .i64 x)],[]=>
  some (.c (.sl 0 0 8 1 none),[.live (.bools (st8 x))],[decide (0≤x),decide (x≤1000000)])
 |_,_=>none
theorem aBB:aT Tryz.prog 266 K8:=by
 intro args h res h' o hnorm he ho
 unfold K8 at he
 split at he
 case h_2=>cases he
 rename_i x
 simp only[Option.some.injEq,Prod.mk.injEq]at he
 obtain⟨rfl,rfl,rfl⟩:=he
 simp only[List.mem_cons,List.not_mem_nil,or_false,forall_eq_or_imp,forall_eq,decide_eq_true_eq]at ho
 obtain⟨o1,o2⟩:=ho
 have e:=YB x
 rw[EH o1 o2,EH (by omega) (by omega),EH (by omega) (by omega),EH (by omega) (by omega),EH (by omega) (by omega),EH (by omega) (by omega),EH (by omega) (by omega),i4 o1,i4 (by omega),i4 (by omega),i4 (by omega),i4 (by omega),i4 (by omega),i4 (by omega),i4 (by omega)]at e
 rw[show x/2/2=x/4 from by omega,show x/4/2=x/8 from by omega,show x/8/2=x/16 from by omega,show x/16/2=x/32 from by omega,show x/32/2=x/64 from by omega,show x/64/2=x/128 from by omega]at e
 exact mo t67 e (by simp)
noncomputable def T68:List aZ:=[⟨266,[],nm K8⟩]++T67
theorem e68:aA Tryz.prog T68:=by
 refine aA.append ?_ e67
 intro e he
 simp only[List.mem_cons,List.not_mem_nil,or_false]at he
 subst he;exact aBB.ok
theorem t68:bL Tryz.prog (aH T68):=aQ e68
end
section
theorem PE:aR Tryz.prog 233 (dW tt (aH T68) Tryz.f233 []):=cJ hT t68 bE [] (by kernel_rfl) (by kernel_rfl)
noncomputable def T69:List aZ:=[⟨233,[],dW tt (aH T68) Tryz.f233 []⟩]++T68
theorem e69:aA Tryz.prog T69:=by
 refine aA.append ?_ e68
 intro e he
 simp only[List.mem_cons,List.not_mem_nil,or_false]at he
 subst he;exact PE
theorem t69:bL Tryz.prog (aH T69):=aQ e69
def s4 (k:Int) (v:List Int) (x:Int):=bt4 (aJ tt (aH T69) ([]) 100 Tryz.f197 [.c (.int .i64 k),.c (.view none (.ints .i64 v) v.length 1 none),.c (.int .i64 x)] []) ([.agg [.int .i64 0,.nils,.nils,.nils],.c (.bool false)]:List AV) (!bif !bet k 1 2 then true else !vok v) (!!bet k 1 2) (P:=fun q0 q1 q2 q3=>q0 [(0,true)]=
  some ⟨.tup q1,[],(rp3 (!bet k 1 2) ((!bet k 1 2)&&true)),[]⟩∧q0 [(0,false),(0,true)]=
  some ⟨.tup q1,[],(rp2 q3 (decide (v.length≤274877906944)&&(!!bet k 1 2&&(rp4 (bif !bet k 1 2 then true else !vok v) true)))),[]⟩∧q0 [(0,false),(0,false),(0,true)]=
  some ⟨.tup q1,[],(rp2 q3 (decide (v.length≤274877906944)&&(!!bet k 1 2&&(rp3 q2 ((bif bif !bet k 1 2 then true else !vok v then true else !bet x 1 99)&&true))))),[]⟩∧q0 [(0,false),(0,false),(0,false)]=
  some ⟨.tup [.agg [.int .i64 k,.sl 0 0 8 1 none,.sl 1 0 8 1 none,.sl 2 0 8 1 none],.c (.bool true)],[.live (.ints .i64 (cdL k v)),.live (.ints .i64 [x,x,x,x,x,x,x,x]),.live (.bools [true,true,true,true,true,true,true,true])],(rp2 q3 (decide (v.length≤274877906944)&&(!!bet k 1 2&&(rp3 q2 ((!bif bif !bet k 1 2 then true else !vok v then true else !bet x 1 99)&&((bet k 1 2&&(decide (v.length=4)&&(aD v&&true)))&&true)))))),[]⟩) ⟨by kernel_rfl,by kernel_rfl,by kernel_rfl,by kernel_rfl⟩
def XO (k:Int) (v:List Int) (x:Int):=(s4 k v x).1
def XP (k:Int) (v:List Int) (x:Int):=(s4 k v x).2.1
def XQ (k:Int) (v:List Int) (x:Int):=(s4 k v x).2.2.1
def XR (k:Int) (v:List Int) (x:Int):=(s4 k v x).2.2.2
theorem FN {P:Program} {f:FuncId} {args:List AV} {b:Bool} (hm:bF P f args [] (.tup [.agg [.int .i64 0,.nils,.nils,.nils],.c (.bool b)]) []):bF P f args [] (.tup [.agg [.int .i64 0,.sl 0 0 0 1 none,.sl 1 0 0 1 none,.sl 2 0 0 1 none],.c (.bool b)]) [.live (.ints .i64 []),.live (.ints .i64 []),.live (.bools [])]:=
 ((hm.nil1 (es:=1) (c0:=.ints .i64 []) rfl rfl).nil1 (es:=1) (c0:=.ints .i64 []) rfl rfl).nil1 (es:=1) (c0:=.bools []) rfl rfl
def snB (k:Int) (v:List Int) (x:Int):Bool:=bet k 1 2&&(bG v 4&&bet x 1 99)
def snK (k:Int) (v:List Int) (x:Int):PK:=bif snB k v x then⟨k,mC k v,HZ x,HZ true,false,0,[],0⟩else PK0
def DD:aO:=fun args h=>
 match args,h with
 |[.c (.int .i64 k),.c (.view _ (.ints .i64 v) n 1 _),.c (.int .i64 x)],[]=>
  some (.tup [.agg [.int .i64 (snK k v x).k,.sl 0 0 (snK k v x).a.length 1 none,.sl 1 0 (snK k v x).b.length 1 none,.sl 2 0 (snK k v x).c.length 1 none],.c (.bool (snB k v x))],[.live (.ints .i64 (snK k v x).a),.live (.ints .i64 (snK k v x).b),.live (.bools (snK k v x).c)],[decide (v.length≤274877906944)])
 |_,_=>none
theorem aAC:aT Tryz.prog 197 DD:=by
 intro args h res h' o hnorm he ho
 unfold DD at he
 split at he
 case h_2=>cases he
 rename_i k nl v n cap x
 simp only[Option.some.injEq,Prod.mk.injEq]at he
 obtain⟨rfl,rfl,rfl⟩:=he
 simp only[List.mem_cons,List.not_mem_nil,or_false,forall_eq_or_imp,forall_eq,decide_eq_true_eq]at ho
 have o1:=ho
 simp only[b8,AV.norm,bA,aI.norm,Con.size,List.cons.injEq,AV.c.injEq,AV.agg.injEq,aI.view.injEq,aN,true_and,and_true]at hnorm
 obtain⟨rfl,rfl,rfl⟩:=hnorm
 unfold snK snB
 cases h1:bet k 1 2 with
 |false=>exact FN (mo t69 (XO k v x) (by simp only[h1,o1,bS,rpS]))
 |true=>
  have hve:=oD v
  cases h2:bG v 4 with
  |false=>exact FN (mo t69 (XP k v x) (by simp only[h1,hve,h2,o1,bS,rpS]))
  |true=>
   cases h3:bet x 1 99 with
   |false=>exact FN (mo t69 (XQ k v x) (by simp only[h1,hve,h2,h3,o1,bS,rpS]))
   |true=>
    obtain⟨hf,hl⟩:=yM h2
    have e:=XR k v x
    rw[sR h1]at e
    exact mo t69 e (by simp only[h1,hve,h2,h3,hf,hl,o1,bS,rpS];simp)
noncomputable def T70:List aZ:=[⟨197,[],nm DD⟩]++T69
theorem e70:aA Tryz.prog T70:=by
 refine aA.append ?_ e69
 intro e he
 simp only[List.mem_cons,List.not_mem_nil,or_false]at he
 subst he;exact aAC.ok
theorem t70:bL Tryz.prog (aH T70):=aQ e70
def NQ (k:Int) (v:List Int):=bt2 (aJ tt (aH T70) ([]) 100 Tryz.f143 [.c (.int .i64 k),.c (.view none (.ints .i64 v) v.length 1 none)] []) (snK k v 1) (P:=fun q0 q1=>q0 [(0,true)]=
  some ⟨.tup [.agg [.int .i64 0,.nils,.nils,.nils,.bool false,.int .i64 0,.nils,.int .i64 0],.c (.bool false)],[],(decide (v.length≤274877906944)&&((!snB k v 1)&&true)),[]⟩∧q0 [(0,false)]=
  some ⟨.tup [.agg [.int .i64 q1.k,.sl 0 0 q1.a.length 1 none,.sl 1 0 q1.b.length 1 none,.sl 2 0 q1.c.length 1 none,.bool false,.int .i64 0,.sl 3 0 0 1 none,.int .i64 0],.c (.bool true)],[.live (.ints .i64 q1.a),.live (.ints .i64 q1.b),.live (.bools q1.c),.live (.ints .i64 [])],(decide (v.length≤274877906944)&&((!!snB k v 1)&&true)),[]⟩) ⟨by kernel_rfl,by kernel_rfl⟩
def a6T (k:Int) (v:List Int):=(NQ k v).1
def a6U (k:Int) (v:List Int):=(NQ k v).2
end
section
theorem tB {α:Type} {l l':List α} {d:α} (hl:l.length=l'.length) (h: ∀i,i<l.length→l.getD i d=l'.getD i d):l=l':=by
 apply List.ext_getElem? fun i=> ?_
 by_cases hi:i<l.length
 ·have:=h i hi
  rw[List.getD_eq_getElem?_getD,List.getD_eq_getElem?_getD,List.getElem?_eq_getElem hi,List.getElem?_eq_getElem (by omega)]at this
  rw[List.getElem?_eq_getElem hi,List.getElem?_eq_getElem (by omega)]
  simpa using this
 ·rw[List.getElem?_eq_none (by omega),List.getElem?_eq_none (by omega)]
variable {k : Int} {a b : List Int} {c : List Bool} {kd : Int} {d : List Int} {vs : Int}
end
section
def shR (x:PK) (i:Int):PK:=⟨x.k,x.a.set i.toNat ((lC x.kd x.d).getD i.toNat 0),x.b.set i.toNat x.vs,x.c.set i.toNat true,x.on,x.kd,x.d,x.vs⟩
theorem PK.offK {x:PK} (h:x.ok=true) (ho:x.on=false):KQ x.k x.a x.b x.c x.kd x.d x.vs:=by
 unfold PK.ok at h;rw[ho]at h;exact fN.1 h
end
section
def CZ:aO:=fun args h=>
 match args,h with
 |[.c (.int .i64 k),.c (.view _ (.ints .i64 v) n 1 _)],[]=>
  some (.tup [.agg (snK k v 1).cells,.c (.bool (snB k v 1))],[.live (.ints .i64 (snK k v 1).a),.live (.ints .i64 (snK k v 1).b),.live (.bools (snK k v 1).c),.live (.ints .i64 (snK k v 1).d)],[decide (v.length≤274877906944)])
 |_,_=>none
theorem m95:aT Tryz.prog 143 CZ:=by
 intro args h res h' o hnorm he ho
 unfold CZ at he
 split at he
 case h_2=>cases he
 rename_i k nl v n cap
 simp only[Option.some.injEq,Prod.mk.injEq]at he
 obtain⟨rfl,rfl,rfl⟩:=he
 simp only[List.mem_cons,List.not_mem_nil,or_false,forall_eq_or_imp,forall_eq,decide_eq_true_eq]at ho
 have o1:=ho
 simp only[b8,AV.norm,bA,aI.norm,Con.size,List.cons.injEq,AV.c.injEq,AV.agg.injEq,aI.view.injEq,aN,true_and,and_true]at hnorm
 obtain⟨rfl,rfl,rfl⟩:=hnorm
 have sp: ∀b,snB k v 1=b→snK k v 1=bif b then⟨k,mC k v,HZ 1,HZ true,false,0,[],0⟩else PK0:=fun b h=>by unfold snK;rw[h]
 cases h:snB k v 1 with
 |false=>
  rw[sp _ h]
  exact iW (mo t70 (a6T k v) (by simp only[h,o1,bS,rpS]))
 |true=>
  have e:=a6U k v
  rw[sp _ h]at e⊢
  exact mo t70 e (by simp only[h,o1,bS,rpS])
theorem YU (k:Int) (a b:List Int) (c:List Bool) (on:Bool) (kd:Int) (d:List Int) (vs:Int) (x:Int):aJ tt (aH T61) ([]) 100 Tryz.f138 [.agg [.int .i64 k,.view none (.ints .i64 a) a.length 1 none,.view none (.ints .i64 b) b.length 1 none,.view none (.bools c) c.length 1 none,.bool on,.int .i64 kd,.view none (.ints .i64 d) d.length 1 none,.int .i64 vs],.c (.int .i64 x)] [] []=
  some ⟨.agg [.int .i64 k,.sl 0 0 a.length 1 none,.sl 1 0 b.length 1 none,.sl 2 0 c.length 1 none,.bool on,.int .i64 kd,.sl 3 0 d.length 1 none,.int .i64 vs],[.live (.ints .i64 (a.set x.toNat ((cdL kd d).getD x.toNat 0))),.live (.ints .i64 (b.set x.toNat vs)),.live (.bools (c.set x.toNat true)),.live (.ints .i64 d)],(decide (a.length≤274877906944)&&(decide (b.length≤274877906944)&&(decide (c.length≤274877906944)&&(decide (d.length≤274877906944)&&(bet kd 1 2&&(decide (d.length=4)&&(aD d&&(decide (0≤x)&&(decide (x<8)&&(decide (x.toNat<(cdL kd d).length)&&(decide (0≤x)&&(decide (x<(↑a.length:Int))&&(decide (x.toNat<a.length)&&(decide (0≤x)&&(decide (x<(↑b.length:Int))&&(decide (x.toNat<b.length)&&(decide (0≤x)&&(decide (x<(↑c.length:Int))&&((decide (x.toNat<c.length))&&true))))))))))))))))))),[]⟩:=by kernel_rfl
def KA:aO:=fun args h=>
 match args,h with
 |[.agg [.int .i64 k,.view _ (.ints .i64 a) n1 1 _,.view _ (.ints .i64 b) n2 1 _,.view _ (.bools c) n3 1 _,.bool on,.int .i64 kd,.view _ (.ints .i64 d) n4 1 _,.int .i64 vs],.c (.int .i64 x)],[]=>
  some (.agg (shR ⟨k,a,b,c,on,kd,d,vs⟩ x).cells,[.live (.ints .i64 (shR ⟨k,a,b,c,on,kd,d,vs⟩ x).a),.live (.ints .i64 (shR ⟨k,a,b,c,on,kd,d,vs⟩ x).b),.live (.bools (shR ⟨k,a,b,c,on,kd,d,vs⟩ x).c),.live (.ints .i64 (shR ⟨k,a,b,c,on,kd,d,vs⟩ x).d)],[decide (a.length=8),decide (b.length=8),decide (c.length=8),bet kd 1 2,bG d 4,bet x 0 7])
 |_,_=>none
theorem m52:aT Tryz.prog 138 KA:=by
 intro args h res h' o hnorm he ho
 unfold KA at he
 split at he
 case h_2=>cases he
 rename_i k nl1 a n1 cap1 nl2 b n2 cap2 nl3 c n3 cap3 on kd nl4 d n4 cap4 vs x
 simp only[Option.some.injEq,Prod.mk.injEq]at he
 obtain⟨rfl,rfl,rfl⟩:=he
 simp only[List.mem_cons,List.not_mem_nil,or_false,forall_eq_or_imp,forall_eq,decide_eq_true_eq]at ho
 obtain⟨o1,o2,o3,o4,o5,o6⟩:=ho
 simp only[b8,AV.norm,bA,aI.norm,Con.size,List.cons.injEq,AV.c.injEq,AV.agg.injEq,aI.view.injEq,aN,true_and,and_true]at hnorm
 obtain⟨⟨rfl,rfl,rfl⟩,⟨rfl,rfl,rfl⟩,⟨rfl,rfl,rfl⟩,rfl,rfl,rfl⟩:=hnorm
 have hx':=bQ.1 o6
 obtain⟨hf,hd4⟩:=yM o5
 have hcd:(cdL kd d).length=8:=rfl
 have mm:=mo (f:=138) t61 (YU k a b c on kd d vs x) (by simp only[o1,o2,o3,o4,hf,hd4,hcd,bS,rpS];omega)
 rw[sR o4,←rO o5]at mm
 have e1:(a.set x.toNat ((lC kd d).getD x.toNat 0)).length=a.length:=List.length_set
 have e2:(b.set x.toNat vs).length=b.length:=List.length_set
 have e3:(c.set x.toNat true).length=c.length:=List.length_set
 show bF _ _ _ _ (.agg [.int .i64 k,.sl 0 0 (a.set x.toNat ((lC kd d).getD x.toNat 0)).length 1 none,.sl 1 0 (b.set x.toNat vs).length 1 none,.sl 2 0 (c.set x.toNat true).length 1 none,.bool on,.int .i64 kd,.sl 3 0 d.length 1 none,.int .i64 vs]) _
 rw[e1,e2,e3]
 exact mm
noncomputable def T71:List aZ:=[⟨143,[],nm CZ⟩,⟨138,[],nm KA⟩]++T70
theorem e71:aA Tryz.prog T71:=by
 refine aA.append ?_ e70
 intro e he
 simp only[List.mem_cons,List.not_mem_nil,or_false]at he
 rcases he with rfl|rfl
 ·exact m95.ok
 ·exact m52.ok
end
section
end
section
theorem q2 (p:Int):p+2+4=p+6:=by omega
end
section
def PK.vcells (x:PK):List aI:=[.int .i64 x.k,.view none (.ints .i64 x.a) x.a.length 1 none,.view none (.ints .i64 x.b) x.b.length 1 none,.view none (.bools x.c) x.c.length 1 none,.bool x.on,.int .i64 x.kd,.view none (.ints .i64 x.d) x.d.length 1 none,.int .i64 x.vs]
noncomputable def T72:List aZ:=[]++T71
theorem e72:aA Tryz.prog T72:=by
 refine aA.append ?_ e71
 intro e he
 cases he
end
section
def PK.sz (x:PK):Prop:=x.a.length=8∧x.b.length=8∧x.c.length=8∧x.d.length≤4
end
section
theorem SC {P:Program} {f:FuncId} {args:List AV} {x:PK} (hm:bF P f args [] (.agg x.cells) [.live (.ints .i64 x.a),.live (.ints .i64 x.b),.live (.bools x.c),.live (.ints .i64 x.d)]):bF P f args [] (.agg x.vcells) []:=
 hm.views (o:=[decide (x.a.length=x.a.length),decide (x.b.length=x.b.length),decide (x.c.length=x.c.length),decide (x.d.length=x.d.length)]) rfl (by simp)
def DC:aO:=fun args h=>
 match args,h with
 |[.agg [.int .i64 k,.view _ (.ints .i64 a) n1 1 _,.view _ (.ints .i64 b) n2 1 _,.view _ (.bools c) n3 1 _,.bool on,.int .i64 kd,.view _ (.ints .i64 d) n4 1 _,.int .i64 vs],.c (.int .i64 x)],[]=>
  some (.agg (shR ⟨k,a,b,c,on,kd,d,vs⟩ x).vcells,[],[decide (a.length=8),decide (b.length=8),decide (c.length=8),bet kd 1 2,bG d 4,bet x 0 7])
 |_,_=>none
theorem aBJ:aT Tryz.prog 138 DC:=by
 intro args h res h' o hnorm he ho
 unfold DC at he
 split at he
 case h_2=>cases he
 rename_i k nl1 a n1 cap1 nl2 b n2 cap2 nl3 c n3 cap3 on kd nl4 d n4 cap4 vs x
 simp only[Option.some.injEq,Prod.mk.injEq]at he
 obtain⟨rfl,rfl,rfl⟩:=he
 simp only[List.mem_cons,List.not_mem_nil,or_false,forall_eq_or_imp,forall_eq,decide_eq_true_eq]at ho
 obtain⟨o1,o2,o3,o4,o5,o6⟩:=ho
 exact SC (m52 _ _ _ _ _ hnorm rfl (by simp[o1,o2,o3,o4,o5,o6]))
def sA:aO:=fun args h=>
 match args,h with
 |[.agg [.int .i64 k,.view _ (.ints .i64 a) n1 1 _,.view _ (.ints .i64 b) n2 1 _,.view _ (.bools c) n3 1 _,.bool on,.int .i64 kd,.view _ (.ints .i64 d) n4 1 _,.int .i64 vs]],[]=>
  some (.agg (iR ⟨k,a,b,c,on,kd,d,vs⟩).vcells,[],[decide (a.length≤274877906944),decide (d.length≤274877906944)])
 |_,_=>none
theorem aBH:aT Tryz.prog 135 sA:=by
 intro args h res h' o hnorm he ho
 unfold sA at he
 split at he
 case h_2=>cases he
 rename_i k nl1 a n1 cap1 nl2 b n2 cap2 nl3 c n3 cap3 on kd nl4 d n4 cap4 vs
 simp only[Option.some.injEq,Prod.mk.injEq]at he
 obtain⟨rfl,rfl,rfl⟩:=he
 simp only[List.mem_cons,List.not_mem_nil,or_false,forall_eq_or_imp,forall_eq,decide_eq_true_eq]at ho
 obtain⟨o1,o2⟩:=ho
 exact SC (m18 _ _ _ _ _ hnorm rfl (by simp[o1,o2]))
noncomputable def T73:List aZ:=[⟨138,[],nm DC⟩,⟨135,[],nm sA⟩]++T72
theorem e73:aA Tryz.prog T73:=by
 refine aA.append ?_ e72
 intro e he
 simp only[List.mem_cons,List.not_mem_nil,or_false]at he
 rcases he with rfl|rfl
 ·exact aBJ.ok
 ·exact aBH.ok
end
section
noncomputable def T74:List aZ:=[]++T73
theorem e74:aA Tryz.prog T74:=by
 refine aA.append ?_ e73
 intro e he
 cases he
end
section
noncomputable def T75:List aZ:=[]++T74
theorem e75:aA Tryz.prog T75:=by
 refine aA.append ?_ e74
 intro e he
 cases he
noncomputable def T76:List aZ:=[]++T75
theorem e76:aA Tryz.prog T76:=by
 refine aA.append ?_ e75
 intro e he
 cases he
end
section
noncomputable def T77:List aZ:=[]++T76
theorem e77:aA Tryz.prog T77:=by
 refine aA.append ?_ e76
 intro e he
 cases he
theorem t77:bL Tryz.prog (aH T77):=aQ e77
end
section
open Go.RowKit
theorem aBU (W:World):Mem (fun _=>False) W (b9 noIds) [] noIds W:=
 ⟨fun id=>by
  have:Heap.get ([]:List aV) id=.unborn:=by simp[Heap.get]
  rw[this];exact trivial,fun i j b h _=>(by cases h),fun id b h=>(by cases h),rfl,rfl,rfl,Nat.le_refl _,fun _ _ _=>rfl,fun b h=>h.elim⟩
theorem own:ownKnob Tryz.prog.godebug=none:=by kernel_rfl
theorem a8G:laidOutB Tryz.prog=true:=by kernel_rfl
end
section
def vwM (F:aO):aO:=fun args h=>
 match h with
 |[]=>(match F args []with
  |some (res,out,obl)=>(match vwA (Heap.get out) res with
   |some (res',o)=>some (res',[],obl++o)
   |none=>none)
  |none=>none)
 |_=>none
theorem aT.vw {P:Program} {f:FuncId} {F:aO} (hF:aT P f F):aT P f (vwM F):=by
 intro args h res h' o hn he ho
 unfold vwM at he
 split at he
 ·split at he
  ·rename_i r out obl hf
   split at he
   ·rename_i r' o2 hv
    simp only[Option.some.injEq,Prod.mk.injEq]at he
    obtain⟨rfl,rfl,rfl⟩:=he
    exact(hF _ _ _ _ _ hn hf fun b hb=>ho b (by simp[hb])).views hv fun b hb=>ho b (by simp[hb])
   ·cases he
  ·cases he
 ·cases he
end
section
theorem aDC {α:Type} {d:α} {n:Nat} {st:Nat→List α→List α} {a:List α} {g:Nat→α} (ha:a.length=n) (hs: ∀i c,st i c=c.set i (g i)):(bI st n 0 a).length=n∧ ∀i,i<n→(bI st n 0 a).getD i d=g i:=by
 have key:=aY (step:=st) (fun m c=>c.length=n∧ ∀i,i<m→c.getD i d=g i) n a ⟨ha,fun i hi=>by omega⟩ fun m c hm ⟨h1,h2⟩=>⟨by rw[hs,List.length_set];exact h1,fun i hi=>by
  rw[hs,List.getD_eq_getElem?_getD,List.getElem?_set]
  by_cases e:m=i
  ·subst e;rw[if_pos rfl,if_pos (by omega)];rfl
  ·rw[if_neg e,←List.getD_eq_getElem?_getD];exact h2 i (by omega)⟩
 exact key
theorem aF3 {α:Type} {d:α} {st:Nat→List α→List α} {a b:List α} (ha:b.length=a.length) (hs: ∀i c,st i c=c.set i (a.getD i d)):bI st a.length 0 b=a:=by
 obtain⟨h1,h2⟩:=aDC (d:=d) ha hs
 exact tB (d:=d) h1 fun i hi=>h2 i (by omega)
noncomputable abbrev fTI:=Tryz.f245
noncomputable def aCX (a c:List Int) (i:Int):St:=aS fTI.ntmps [(0,.c (.view none (.ints .i64 a) a.length 1 none)),(3,.c (.sl 0 0 a.length 1 none)),(4,.c (.int .i64 i))] [.live (.ints .i64 c)]
noncomputable def aEV (n:Nat) (c:List Int):St:=aS fTI.ntmps [(3,.c (.sl 0 0 n 1 none))] [.live (.ints .i64 c)]
theorem aG6 (a c:List Int) (i:Int):aK 0 (aE fTI 0) (aG fTI 0) (aM tt (aH T77) ([]) 0 100 (aC 0 (aB fTI)) (aCX a c i) [(0,true)])=
  some (.normal,(decide (i<(↑a.length:Int))&&(decide (0≤i)&&(decide (i<(↑a.length:Int))&&(decide (i.toNat<a.length)&&(decide (0≤i)&&(decide (i<(↑a.length:Int))&&((decide (i.toNat<c.length))&&true))))))),[],aCX a (c.set i.toNat (a.getD i.toNat 0)) (IntKind.i64.wrap (i+1))):=by kernel_rfl
theorem aG7 (a c:List Int) (i:Int):aK 0 (aE fTI 0) (aG fTI 0) (aM tt (aH T77) ([]) 0 100 (aC 0 (aB fTI)) (aCX a c i) [(0,false)])=
  some (.exit 0,((!decide (i<(↑a.length:Int)))&&true),[],aEV a.length c):=by kernel_rfl
theorem aGM (a:List Int):aJ tt (aH T77) ([(0,⟨aE fTI 0,aCX a (List.replicate a.length 0) 0,.normal,aEV a.length a⟩)]) 100 fTI [.c (.view none (.ints .i64 a) a.length 1 none)] [] []=
  some ⟨.c (.sl 0 0 a.length 1 none),[.live (.ints .i64 a)],(decide ((↑a.length:Int)≤(↑a.length:Int))&&((decide ((↑a.length:Int)≤274877906944))&&true)),[aCX a (List.replicate a.length 0) 0=aCX a (List.replicate a.length 0) 0]⟩:=by kernel_rfl
def cpI (a:List Int) (i:Nat) (c:List Int):List Int:=c.set i (a.getD i 0)
theorem aII (a:List Int) (hn:a.length≤274877906944):
  aP none Tryz.prog 0 (.block 0 (.loop (aC 0 (aB fTI)))) (aCX a (List.replicate a.length 0) 0) fun e t=>e=.normal∧t=aEV a.length a:=by
 have key:=aP.count (ro:=none) hT t77 bE (m:=0) (id:=0) (body:=aC 0 (aB fTI)) (β:=List Int) a.length (fun _ c=>c.length=a.length) (fun i c=>aCX a c i) (fun c=>aEV a.length c) (cpI a) (aE fTI 0) (aG fTI 0) (fun _ _=>[]) (fun _ _ _ _=>aL.nil) (fun i c hi hc=>⟨by unfold cpI;rw[List.length_set];exact hc, ?_⟩) (fun c _=>⟨_,_,⟨_,_,aG7 a c a.length,by simp,by simp⟩⟩) (List.replicate a.length 0) (by simp)
 ·have er:bI (cpI a) a.length 0 (List.replicate a.length 0)=a:=aF3 (d:=0) (by simp) (fun _ _=>rfl)
  rw[er]at key
  exact key
 ·have e:=aG6 a c i
  rw[aF (by omega) (by omega),Int.toNat_natCast]at e
  refine⟨_,_,⟨_,_,e, ?_,by simp⟩⟩
  simp only[hc,bS,rpS]
  omega
def aE4:aO:=fun args h=>
 match args,h with
 |[.c (.view _ (.ints .i64 a) n1 1 _)],[]=>
  some (.c (.sl 0 0 a.length 1 none),[.live (.ints .i64 a)],[decide (a.length≤274877906944)])
 |_,_=>none
theorem aIQ:aT Tryz.prog 245 aE4:=by
 intro args h res h' o hnorm he ho
 unfold aE4 at he
 split at he
 case h_2=>cases he
 rename_i nl a n1 cap
 simp only[Option.some.injEq,Prod.mk.injEq]at he
 obtain⟨rfl,rfl,rfl⟩:=he
 simp only[List.mem_cons,List.not_mem_nil,or_false,forall_eq_or_imp,forall_eq,decide_eq_true_eq]at ho
 have o1:=ho
 simp only[b8,AV.norm,bA,aI.norm,Con.size,List.cons.injEq,AV.c.injEq,AV.agg.injEq,aI.view.injEq,aN,true_and,and_true]at hnorm
 obtain⟨rfl,rfl,rfl⟩:=hnorm
 exact mo (fn:=fTI) t77 (aGM a) (by simp;omega) (hlc:=(fun cc hcc=>aL.cons (c:=cc) (by cases hcc;kernel_rfl) (by cases hcc;exact aII a o1) aL.nil))
noncomputable abbrev fMI:=Tryz.f172
noncomputable def aCV (n:Nat) (k:Int) (c:List Int) (i:Int):St:=aS fMI.ntmps [(0,.c (.sl 0 0 n 1 none)),(1,.c (.int .i64 k)),(5,.c (.int .i64 i))] [.live (.ints .i64 c)]
noncomputable def aET (k:Int) (c:List Int):St:=aS fMI.ntmps [(1,.c (.int .i64 k))] [.live (.ints .i64 c)]
theorem aG2 (n:Nat) (k:Int) (c:List Int) (i:Int):aK 1 (aE fMI 0) (aG fMI 0) (aM tt (aH T77) ([]) 1 100 (aC 0 (aB fMI)) (aCV n k c i) [(0,true)])=
  some (.normal,(decide (i<(↑n:Int))&&(decide (0≤i)&&(decide (i<(↑n:Int))&&((decide (i.toNat<c.length))&&true)))),[],aCV n (IntKind.i64.wrap (k+1)) (c.set i.toNat k) (IntKind.i64.wrap (i+1))):=by kernel_rfl
theorem aG3 (n:Nat) (k:Int) (c:List Int) (i:Int):aK 1 (aE fMI 0) (aG fMI 0) (aM tt (aH T77) ([]) 1 100 (aC 0 (aB fMI)) (aCV n k c i) [(0,false)])=
  some (.exit 0,((!decide (i<(↑n:Int)))&&true),[],aET k c):=by kernel_rfl
theorem aGK (a c:List Int) (k k':Int):aJ tt (aH T77) ([(0,⟨aE fMI 0,aCV a.length k a 0,.normal,aET k' c⟩)]) 100 fMI [.c (.sl 0 0 a.length 1 none),.c (.int .i64 k)] [.live (.ints .i64 a)] []=
  some ⟨.c (.int .i64 k'),[.live (.ints .i64 c)],true,[aCV a.length k a 0=aCV a.length k a 0]⟩:=by kernel_rfl
def aFJ (k:Int) (i:Nat) (c:List Int):List Int:=c.set i (k+(i:Int))
def aD2 (k:Int) (a:List Int):List Int:=bI (aFJ k) a.length 0 a
theorem aCM (k:Int) (a:List Int):(aD2 k a).length=a.length∧ ∀i,i<a.length→(aD2 k a).getD i 0=(k+(i:Int)):=aDC rfl fun _ _=>rfl
theorem aIG (a:List Int) (k:Int) (hn:a.length≤274877906944) (hk:0≤k) (hk2:k≤4611686018427387904):
  aP none Tryz.prog 1 (.block 0 (.loop (aC 0 (aB fMI)))) (aCV a.length k a 0) fun e t=>e=.normal∧t=aET (k+(a.length:Int)) (aD2 k a):=by
 have key:=aP.count (ro:=none) hT t77 bE (m:=1) (id:=0) (body:=aC 0 (aB fMI)) (β:=List Int) a.length (fun _ c=>c.length=a.length) (fun i c=>aCV a.length (k+(i:Int)) c i) (fun c=>aET (k+(a.length:Int)) c) (aFJ k) (aE fMI 0) (aG fMI 0) (fun _ _=>[]) (fun _ _ _ _=>aL.nil) (fun i c hi hc=>⟨by unfold aFJ;rw[List.length_set];exact hc, ?_⟩) (fun c _=>⟨_,_,⟨_,_,aG3 a.length (k+(a.length:Int)) c a.length,by simp,by simp⟩⟩) a rfl
 ·unfold aD2;simpa using key
 ·have e:=aG2 a.length (k+(i:Int)) c i
  rw[aF (i:=(i:Int)+1) (by omega) (by omega),aF (i:=k+(i:Int)+1) (by omega) (by omega),Int.toNat_natCast,show k+(i:Int)+1=k+((i+1:Nat):Int)from by omega]at e
  refine⟨_,_,⟨_,_,e, ?_,by simp⟩⟩
  simp only[hc,bS,rpS]
  first|omega|(simp;omega)
def aDY:aO:=fun args h=>
 match args,h with
 |[.c (.sl 0 0 n 1 none),.c (.int .i64 k)],[.live (.ints .i64 a)]=>
  some (.c (.int .i64 (k+(a.length:Int))),[.live (.ints .i64 (aD2 k a))],[decide (a.length≤274877906944),decide (n=a.length),decide (0≤k),decide (k≤4611686018427387904)])
 |_,_=>none
theorem aIO:aR Tryz.prog 172 aDY:=by
 intro args h res h' o he ho
 unfold aDY at he
 split at he
 case h_2=>cases he
 rename_i n k a
 simp only[Option.some.injEq,Prod.mk.injEq]at he
 obtain⟨rfl,rfl,rfl⟩:=he
 simp only[List.mem_cons,List.not_mem_nil,or_false,forall_eq_or_imp,forall_eq,decide_eq_true_eq]at ho
 obtain⟨o1,o2,o3,o4⟩:=ho
 subst o2
 exact mo (fn:=fMI) t77 (aGK a (aD2 k a) k (k+(a.length:Int))) (by simp) (hlc:=(fun cc hcc=>aL.cons (c:=cc) (by cases hcc;kernel_rfl) (by cases hcc;exact aIG a k o1 o3 o4) aL.nil))
noncomputable abbrev fHI:=Tryz.f185
noncomputable def aCT (a:List Int) (k i:Int):St:=aS fHI.ntmps [(0,.c (.view none (.ints .i64 a) a.length 1 none)),(1,.c (.int .i64 k)),(5,.c (.int .i64 i))] []
noncomputable def aER (k:Int):St:=aS fHI.ntmps [(1,.c (.int .i64 k))] []
theorem aFY (a:List Int) (k i:Int):aK 0 (aE fHI 0) (aG fHI 0) (aM tt (aH T77) ([]) 0 100 (aC 0 (aB fHI)) (aCT a k i) [(0,true),(0,false)])=
  some (.normal,(decide (i<(↑a.length:Int))&&(decide (0≤i)&&(decide (i<(↑a.length:Int))&&(decide (i.toNat<a.length)&&((!a.getD i.toNat 0 !=k)&&true))))),[],aCT a (IntKind.i64.wrap (k+1)) (IntKind.i64.wrap (i+1))):=by kernel_rfl
theorem aFZ (a:List Int) (k i:Int):aK 0 (aE fHI 0) (aG fHI 0) (aM tt (aH T77) ([]) 0 100 (aC 0 (aB fHI)) (aCT a k i) [(0,false)])=
  some (.exit 0,((!decide (i<(↑a.length:Int)))&&true),[],aER k):=by kernel_rfl
theorem aGI (a:List Int) (k k':Int):aJ tt (aH T77) ([(0,⟨aE fHI 0,aCT a k 0,.normal,aER k'⟩)]) 100 fHI [.c (.view none (.ints .i64 a) a.length 1 none),.c (.int .i64 k)] [] []=
  some ⟨.c (.int .i64 k'),[],true,[aCT a k 0=aCT a k 0]⟩:=by kernel_rfl
def hdI (k:Int) (a:List Int):Bool:=cL (fun i=>a.getD i 0==(k+(i:Int))) a.length 0
theorem aI8 (k:Int) (a:List Int):hdI k (aD2 k a)=true:=by
 obtain⟨h1,h2⟩:=aCM k a
 unfold hdI
 rw[cF]
 intro i _ hi
 rw[h2 i (by omega),beq_self_eq_true]
theorem aIE (a:List Int) (k:Int) (hn:a.length≤274877906944) (hk:0≤k) (hk2:k≤4611686018427387904) (hh:hdI k a=true):
  aP none Tryz.prog 0 (.block 0 (.loop (aC 0 (aB fHI)))) (aCT a k 0) fun e t=>e=.normal∧t=aER (k+(a.length:Int)):=by
 have hh:=cF.1 hh
 have key:=aP.count (ro:=none) hT t77 bE (m:=0) (id:=0) (body:=aC 0 (aB fHI)) (β:=Unit) a.length (fun _ _=>True) (fun i _=>aCT a (k+(i:Int)) i) (fun _=>aER (k+(a.length:Int))) (fun _ _=>()) (aE fHI 0) (aG fHI 0) (fun _ _=>[]) (fun _ _ _ _=>aL.nil) (fun i _ hi _=>⟨trivial, ?_⟩) (fun _ _=>⟨_,_,⟨_,_,aFZ a (k+(a.length:Int)) a.length,by simp,by simp⟩⟩) () trivial
 ·simpa using key
 ·have hv:=hh i (by omega) (by omega)
  have hv:=beq_iff_eq.1 hv
  have e:=aFY a (k+(i:Int)) i
  rw[aF (i:=(i:Int)+1) (by omega) (by omega),aF (i:=k+(i:Int)+1) (by omega) (by omega),Int.toNat_natCast,show k+(i:Int)+1=k+((i+1:Nat):Int)from by omega]at e
  refine⟨_,_,⟨_,_,e, ?_,by simp⟩⟩
  simp only[hv,bne_self_eq_false,beq_self_eq_true,bS,rpS]
  first|omega|(simp;omega)
def aDV:aO:=fun args h=>
 match args,h with
 |[.c (.view _ (.ints .i64 a) n1 1 _),.c (.int .i64 k)],[]=>
  some (.c (.int .i64 (k+(a.length:Int))),[],[decide (a.length≤274877906944),decide (0≤k),decide (k≤4611686018427387904),hdI k a])
 |_,_=>none
theorem aIM:aT Tryz.prog 185 aDV:=by
 intro args h res h' o hnorm he ho
 unfold aDV at he
 split at he
 case h_2=>cases he
 rename_i nl a n1 cap k
 simp only[Option.some.injEq,Prod.mk.injEq]at he
 obtain⟨rfl,rfl,rfl⟩:=he
 simp only[List.mem_cons,List.not_mem_nil,or_false,forall_eq_or_imp,forall_eq,decide_eq_true_eq]at ho
 obtain⟨o1,o2,o3,o4⟩:=ho
 simp only[b8,AV.norm,bA,aI.norm,Con.size,List.cons.injEq,AV.c.injEq,AV.agg.injEq,aI.view.injEq,aN,true_and,and_true]at hnorm
 obtain⟨rfl,rfl,rfl⟩:=hnorm
 exact mo (fn:=fHI) t77 (aGI a k (k+(a.length:Int))) (by simp) (hlc:=(fun cc hcc=>aL.cons (c:=cc) (by cases hcc;kernel_rfl) (by cases hcc;exact aIE a k o1 o2 o3 o4) aL.nil))
noncomputable abbrev fEI:=Tryz.f247
noncomputable def aCR (a:List Int) (i:Int):St:=aS fEI.ntmps [(0,.c (.view none (.ints .i64 a) a.length 1 none)),(1,.c (.view none (.ints .i64 a) a.length 1 none)),(5,.c (.int .i64 i))] []
noncomputable def aEP:St:=aS fEI.ntmps [] []
theorem aFU (a:List Int) (i:Int):aK 0 (aE fEI 0) (aG fEI 0) (aM tt (aH T77) ([]) 0 100 (aC 0 (aB fEI)) (aCR a i) [(0,true),(0,false)])=
  some (.normal,(decide (i<(↑a.length:Int))&&(decide (0≤i)&&(decide (i<(↑a.length:Int))&&(decide (i.toNat<a.length)&&(decide (0≤i)&&(decide (i<(↑a.length:Int))&&(decide (i.toNat<a.length)&&((!a.getD i.toNat 0 !=a.getD i.toNat 0)&&true)))))))),[],aCR a (IntKind.i64.wrap (i+1))):=by kernel_rfl
theorem aFV (a:List Int) (i:Int):aK 0 (aE fEI 0) (aG fEI 0) (aM tt (aH T77) ([]) 0 100 (aC 0 (aB fEI)) (aCR a i) [(0,false)])=
  some (.exit 0,((!decide (i<(↑a.length:Int)))&&true),[],aEP):=by kernel_rfl
def aDI (a:List Int):=bt2 (aJ tt (aH T77) ([(0,⟨aE fEI 0,aCR a 0,.normal,aEP⟩)]) 100 fEI [.c (.view none (.ints .i64 a) a.length 1 none),.c (.view none (.ints .i64 a) a.length 1 none)] []) (↑a.length:Int) (P:=fun q0 q1=>q0 [(0,true)]=
  some ⟨.c (.bool false),[],((q1 !=q1)&&true),[]⟩∧q0 [(0,false)]=
  some ⟨.c (.bool true),[],((!q1 !=q1)&&true),[aCR a 0=aCR a 0]⟩) ⟨by kernel_rfl,by kernel_rfl⟩
def aJ3 (a:List Int):=(aDI a).1
def aGG (a:List Int):=(aDI a).2
theorem aIC (a:List Int) (hn:a.length≤274877906944):
  aP none Tryz.prog 0 (.block 0 (.loop (aC 0 (aB fEI)))) (aCR a 0) fun e t=>e=.normal∧t=aEP:=by
 refine aP.count (ro:=none) hT t77 bE (m:=0) (id:=0) (body:=aC 0 (aB fEI)) (β:=Unit) a.length (fun _ _=>True) (fun i _=>aCR a i) (fun _=>aEP) (fun _ _=>()) (aE fEI 0) (aG fEI 0) (fun _ _=>[]) (fun _ _ _ _=>aL.nil) (fun i _ hi _=>⟨trivial, ?_⟩) (fun _ _=>⟨_,_,⟨_,_,aFV a a.length,by simp,by simp⟩⟩) () trivial
 have e:=aFU a i
 rw[aF (i:=(i:Int)+1) (by omega) (by omega),Int.toNat_natCast]at e
 refine⟨_,_,⟨_,_,e, ?_,by simp⟩⟩
 simp only[bne_self_eq_false,beq_self_eq_true,bS,rpS]
 first|omega|(simp;omega)
def aDT:aO:=fun args h=>
 match args,h with
 |[.c (.view _ (.ints .i64 a) n1 1 _),.c (.view _ (.ints .i64 b) n2 1 _)],[]=>
  some (.c (.bool true),[],[decide (a.length≤274877906944),decide (a=b)])
 |_,_=>none
theorem aIK:aT Tryz.prog 247 aDT:=by
 intro args h res h' o hnorm he ho
 unfold aDT at he
 split at he
 case h_2=>cases he
 rename_i nl a n1 cap nl2 b n2 cap2
 simp only[Option.some.injEq,Prod.mk.injEq]at he
 obtain⟨rfl,rfl,rfl⟩:=he
 simp only[List.mem_cons,List.not_mem_nil,or_false,forall_eq_or_imp,forall_eq,decide_eq_true_eq]at ho
 obtain⟨o1,o2⟩:=ho
 simp only[b8,AV.norm,bA,aI.norm,Con.size,List.cons.injEq,AV.c.injEq,AV.agg.injEq,aI.view.injEq,aN,true_and,and_true]at hnorm
 obtain⟨⟨rfl,rfl,rfl⟩,rfl,rfl,rfl⟩:=hnorm
 subst o2
 exact mo (fn:=fEI) t77 (aGG a) (by simp) (hlc:=(fun cc hcc=>aL.cons (c:=cc) (by cases hcc;kernel_rfl) (by cases hcc;exact aIC a o1) aL.nil))
theorem aGP (a:List Int) (l:Int):aJ tt (aH T77) ([]) 100 Tryz.f237 [.c (.view none (.ints .i64 a) a.length 1 none),.c (.int .i64 l)] [] [(0,true)]=
  some ⟨.c (.int .i64 (-1)),[],((decide (IntKind.i64.wrap (l-(↑a.length:Int))<0))&&true),[]⟩:=by kernel_rfl
theorem aGQ (a:List Int) (l:Int):aJ tt (aH T77) ([]) 100 Tryz.f237 [.c (.view none (.ints .i64 a) a.length 1 none),.c (.int .i64 l)] [] [(0,false)]=
  some ⟨.c (.int .i64 (IntKind.i64.wrap (l-(↑a.length:Int)))),[],((!decide (IntKind.i64.wrap (l-(↑a.length:Int))<0))&&true),[]⟩:=by kernel_rfl
def szF (l:Int) (n:Nat):Int:=bif decide (l-(n:Int)<0)then -1 else l-(n:Int)
def aE0:aO:=fun args h=>
 match args,h with
 |[.c (.view _ (.ints .i64 a) n1 1 _),.c (.int .i64 l)],[]=>
  some (.c (.int .i64 (szF l a.length)),[],[decide (a.length≤9223372036854775807),decide (0≤l),decide (l≤1048576)])
 |_,_=>none
theorem aIS:aT Tryz.prog 237 aE0:=by
 intro args h res h' o hnorm he ho
 unfold aE0 at he
 split at he
 case h_2=>cases he
 rename_i nl a n1 cap l
 simp only[Option.some.injEq,Prod.mk.injEq]at he
 obtain⟨rfl,rfl,rfl⟩:=he
 simp only[List.mem_cons,List.not_mem_nil,or_false,forall_eq_or_imp,forall_eq,decide_eq_true_eq]at ho
 obtain⟨o1,o2,o3⟩:=ho
 simp only[b8,AV.norm,bA,aI.norm,Con.size,List.cons.injEq,AV.c.injEq,AV.agg.injEq,aI.view.injEq,aN,true_and,and_true]at hnorm
 obtain⟨rfl,rfl,rfl⟩:=hnorm
 unfold szF
 have w:IntKind.i64.wrap (l-(a.length:Int))=l-(a.length:Int):=by
  simp only[IntKind.wrap,IntKind.bits,IntKind.signed];simp;omega
 cases c:decide (l-(a.length:Int)<0)with
 |true=>exact mo t77 (aGP a l) (by rw[w,c];rfl)
 |false=>
  have e:=aGQ a l
  rw[w]at e
  exact mo t77 e (by rw[c];rfl)
noncomputable abbrev fTB:=Tryz.f67
noncomputable def aCW (a c:List Bool) (i:Int):St:=aS fTB.ntmps [(0,.c (.view none (.bools a) a.length 1 none)),(3,.c (.sl 0 0 a.length 1 none)),(4,.c (.int .i64 i))] [.live (.bools c)]
noncomputable def aEU (n:Nat) (c:List Bool):St:=aS fTB.ntmps [(3,.c (.sl 0 0 n 1 none))] [.live (.bools c)]
theorem aG4 (a c:List Bool) (i:Int):aK 0 (aE fTB 0) (aG fTB 0) (aM tt (aH T77) ([]) 0 100 (aC 0 (aB fTB)) (aCW a c i) [(0,true)])=
  some (.normal,(decide (i<(↑a.length:Int))&&(decide (0≤i)&&(decide (i<(↑a.length:Int))&&(decide (i.toNat<a.length)&&(decide (0≤i)&&(decide (i<(↑a.length:Int))&&((decide (i.toNat<c.length))&&true))))))),[],aCW a (c.set i.toNat (a.getD i.toNat false)) (IntKind.i64.wrap (i+1))):=by kernel_rfl
theorem aG5 (a c:List Bool) (i:Int):aK 0 (aE fTB 0) (aG fTB 0) (aM tt (aH T77) ([]) 0 100 (aC 0 (aB fTB)) (aCW a c i) [(0,false)])=
  some (.exit 0,((!decide (i<(↑a.length:Int)))&&true),[],aEU a.length c):=by kernel_rfl
def aGL (a:List Bool):=bt2 (List.replicate a.length false) (↑a.length:Int) (P:=fun q0 q1=>(aJ tt (aH T77) ([(0,⟨aE fTB 0,aCW a q0 0,.normal,aEU a.length a⟩)]) 100 fTB [.c (.view none (.bools a) a.length 1 none)] []) []=
  some ⟨.c (.sl 0 0 a.length 1 none),[.live (.bools a)],(decide (q1≤q1)&&((decide (q1≤274877906944))&&true)),[aCW a q0 0=aCW a q0 0]⟩) (by kernel_rfl)
def cpB (a:List Bool) (i:Nat) (c:List Bool):List Bool:=c.set i (a.getD i false)
theorem aIH (a:List Bool) (hn:a.length≤274877906944):
  aP none Tryz.prog 0 (.block 0 (.loop (aC 0 (aB fTB)))) (aCW a (List.replicate a.length false) 0) fun e t=>e=.normal∧t=aEU a.length a:=by
 have key:=aP.count (ro:=none) hT t77 bE (m:=0) (id:=0) (body:=aC 0 (aB fTB)) (β:=List Bool) a.length (fun _ c=>c.length=a.length) (fun i c=>aCW a c i) (fun c=>aEU a.length c) (cpB a) (aE fTB 0) (aG fTB 0) (fun _ _=>[]) (fun _ _ _ _=>aL.nil) (fun i c hi hc=>⟨by unfold cpB;rw[List.length_set];exact hc, ?_⟩) (fun c _=>⟨_,_,⟨_,_,aG5 a c a.length,by simp,by simp⟩⟩) (List.replicate a.length false) (by simp)
 ·have er:bI (cpB a) a.length 0 (List.replicate a.length false)=a:=aF3 (d:=false) (by simp) (fun _ _=>rfl)
  rw[er]at key
  exact key
 ·have e:=aG4 a c i
  rw[aF (by omega) (by omega),Int.toNat_natCast]at e
  refine⟨_,_,⟨_,_,e, ?_,by simp⟩⟩
  simp only[hc,bS,rpS]
  omega
def aE3:aO:=fun args h=>
 match args,h with
 |[.c (.view _ (.bools a) n1 1 _)],[]=>
  some (.c (.sl 0 0 a.length 1 none),[.live (.bools a)],[decide (a.length≤274877906944)])
 |_,_=>none
theorem aIP:aT Tryz.prog 67 aE3:=by
 intro args h res h' o hnorm he ho
 unfold aE3 at he
 split at he
 case h_2=>cases he
 rename_i nl a n1 cap
 simp only[Option.some.injEq,Prod.mk.injEq]at he
 obtain⟨rfl,rfl,rfl⟩:=he
 simp only[List.mem_cons,List.not_mem_nil,or_false,forall_eq_or_imp,forall_eq,decide_eq_true_eq]at ho
 have o1:=ho
 simp only[b8,AV.norm,bA,aI.norm,Con.size,List.cons.injEq,AV.c.injEq,AV.agg.injEq,aI.view.injEq,aN,true_and,and_true]at hnorm
 obtain⟨rfl,rfl,rfl⟩:=hnorm
 exact mo (fn:=fTB) t77 (aGL a) (by simp;omega) (hlc:=(fun cc hcc=>aL.cons (c:=cc) (by cases hcc;kernel_rfl) (by cases hcc;exact aIH a o1) aL.nil))
noncomputable abbrev fMB:=Tryz.f103
noncomputable def aCU (n:Nat) (k:Int) (c:List Bool) (i:Int):St:=aS fMB.ntmps [(0,.c (.sl 0 0 n 1 none)),(1,.c (.int .i64 k)),(5,.c (.int .i64 i))] [.live (.bools c)]
noncomputable def aES (k:Int) (c:List Bool):St:=aS fMB.ntmps [(1,.c (.int .i64 k))] [.live (.bools c)]
theorem aG0 (n:Nat) (k:Int) (c:List Bool) (i:Int):aK 1 (aE fMB 0) (aG fMB 0) (aM tt (aH T77) ([]) 1 100 (aC 0 (aB fMB)) (aCU n k c i) [(0,true)])=
  some (.normal,(decide (i<(↑n:Int))&&(decide (0≤i)&&(decide (i<(↑n:Int))&&((decide (i.toNat<c.length))&&true)))),[],aCU n (IntKind.i64.wrap (k+1)) (c.set i.toNat (k.tmod 3==0)) (IntKind.i64.wrap (i+1))):=by kernel_rfl
theorem aG1 (n:Nat) (k:Int) (c:List Bool) (i:Int):aK 1 (aE fMB 0) (aG fMB 0) (aM tt (aH T77) ([]) 1 100 (aC 0 (aB fMB)) (aCU n k c i) [(0,false)])=
  some (.exit 0,((!decide (i<(↑n:Int)))&&true),[],aES k c):=by kernel_rfl
theorem aGJ (a c:List Bool) (k k':Int):aJ tt (aH T77) ([(0,⟨aE fMB 0,aCU a.length k a 0,.normal,aES k' c⟩)]) 100 fMB [.c (.sl 0 0 a.length 1 none),.c (.int .i64 k)] [.live (.bools a)] []=
  some ⟨.c (.int .i64 k'),[.live (.bools c)],true,[aCU a.length k a 0=aCU a.length k a 0]⟩:=by kernel_rfl
def aFI (k:Int) (i:Nat) (c:List Bool):List Bool:=c.set i ((k+(i:Int)).tmod 3==0)
def aD1 (k:Int) (a:List Bool):List Bool:=bI (aFI k) a.length 0 a
theorem aCL (k:Int) (a:List Bool):(aD1 k a).length=a.length∧ ∀i,i<a.length→(aD1 k a).getD i false=((k+(i:Int)).tmod 3==0):=aDC rfl fun _ _=>rfl
theorem aIF (a:List Bool) (k:Int) (hn:a.length≤274877906944) (hk:0≤k) (hk2:k≤4611686018427387904):
  aP none Tryz.prog 1 (.block 0 (.loop (aC 0 (aB fMB)))) (aCU a.length k a 0) fun e t=>e=.normal∧t=aES (k+(a.length:Int)) (aD1 k a):=by
 have key:=aP.count (ro:=none) hT t77 bE (m:=1) (id:=0) (body:=aC 0 (aB fMB)) (β:=List Bool) a.length (fun _ c=>c.length=a.length) (fun i c=>aCU a.length (k+(i:Int)) c i) (fun c=>aES (k+(a.length:Int)) c) (aFI k) (aE fMB 0) (aG fMB 0) (fun _ _=>[]) (fun _ _ _ _=>aL.nil) (fun i c hi hc=>⟨by unfold aFI;rw[List.length_set];exact hc, ?_⟩) (fun c _=>⟨_,_,⟨_,_,aG1 a.length (k+(a.length:Int)) c a.length,by simp,by simp⟩⟩) a rfl
 ·unfold aD1;simpa using key
 ·have e:=aG0 a.length (k+(i:Int)) c i
  rw[aF (i:=(i:Int)+1) (by omega) (by omega),aF (i:=k+(i:Int)+1) (by omega) (by omega),Int.toNat_natCast,show k+(i:Int)+1=k+((i+1:Nat):Int)from by omega]at e
  refine⟨_,_,⟨_,_,e, ?_,by simp⟩⟩
  simp only[hc,bS,rpS]
  first|omega|(simp;omega)
def aDX:aO:=fun args h=>
 match args,h with
 |[.c (.sl 0 0 n 1 none),.c (.int .i64 k)],[.live (.bools a)]=>
  some (.c (.int .i64 (k+(a.length:Int))),[.live (.bools (aD1 k a))],[decide (a.length≤274877906944),decide (n=a.length),decide (0≤k),decide (k≤4611686018427387904)])
 |_,_=>none
theorem aIN:aR Tryz.prog 103 aDX:=by
 intro args h res h' o he ho
 unfold aDX at he
 split at he
 case h_2=>cases he
 rename_i n k a
 simp only[Option.some.injEq,Prod.mk.injEq]at he
 obtain⟨rfl,rfl,rfl⟩:=he
 simp only[List.mem_cons,List.not_mem_nil,or_false,forall_eq_or_imp,forall_eq,decide_eq_true_eq]at ho
 obtain⟨o1,o2,o3,o4⟩:=ho
 subst o2
 exact mo (fn:=fMB) t77 (aGJ a (aD1 k a) k (k+(a.length:Int))) (by simp) (hlc:=(fun cc hcc=>aL.cons (c:=cc) (by cases hcc;kernel_rfl) (by cases hcc;exact aIF a k o1 o3 o4) aL.nil))
noncomputable abbrev fHB:=Tryz.f104
noncomputable def aCS (a:List Bool) (k i:Int):St:=aS fHB.ntmps [(0,.c (.view none (.bools a) a.length 1 none)),(1,.c (.int .i64 k)),(5,.c (.int .i64 i))] []
noncomputable def aEQ (k:Int):St:=aS fHB.ntmps [(1,.c (.int .i64 k))] []
theorem aFW (a:List Bool) (k i:Int):aK 0 (aE fHB 0) (aG fHB 0) (aM tt (aH T77) ([]) 0 100 (aC 0 (aB fHB)) (aCS a k i) [(0,true),(0,false)])=
  some (.normal,(decide (i<(↑a.length:Int))&&(decide (0≤i)&&(decide (i<(↑a.length:Int))&&(decide (i.toNat<a.length)&&((!!a.getD i.toNat false==(k.tmod 3==0))&&true))))),[],aCS a (IntKind.i64.wrap (k+1)) (IntKind.i64.wrap (i+1))):=by kernel_rfl
theorem aFX (a:List Bool) (k i:Int):aK 0 (aE fHB 0) (aG fHB 0) (aM tt (aH T77) ([]) 0 100 (aC 0 (aB fHB)) (aCS a k i) [(0,false)])=
  some (.exit 0,((!decide (i<(↑a.length:Int)))&&true),[],aEQ k):=by kernel_rfl
theorem aGH (a:List Bool) (k k':Int):aJ tt (aH T77) ([(0,⟨aE fHB 0,aCS a k 0,.normal,aEQ k'⟩)]) 100 fHB [.c (.view none (.bools a) a.length 1 none),.c (.int .i64 k)] [] []=
  some ⟨.c (.int .i64 k'),[],true,[aCS a k 0=aCS a k 0]⟩:=by kernel_rfl
def hdB (k:Int) (a:List Bool):Bool:=cL (fun i=>a.getD i false==((k+(i:Int)).tmod 3==0)) a.length 0
theorem aI7 (k:Int) (a:List Bool):hdB k (aD1 k a)=true:=by
 obtain⟨h1,h2⟩:=aCL k a
 unfold hdB
 rw[cF]
 intro i _ hi
 rw[h2 i (by omega),beq_self_eq_true]
theorem aID (a:List Bool) (k:Int) (hn:a.length≤274877906944) (hk:0≤k) (hk2:k≤4611686018427387904) (hh:hdB k a=true):
  aP none Tryz.prog 0 (.block 0 (.loop (aC 0 (aB fHB)))) (aCS a k 0) fun e t=>e=.normal∧t=aEQ (k+(a.length:Int)):=by
 have hh:=cF.1 hh
 have key:=aP.count (ro:=none) hT t77 bE (m:=0) (id:=0) (body:=aC 0 (aB fHB)) (β:=Unit) a.length (fun _ _=>True) (fun i _=>aCS a (k+(i:Int)) i) (fun _=>aEQ (k+(a.length:Int))) (fun _ _=>()) (aE fHB 0) (aG fHB 0) (fun _ _=>[]) (fun _ _ _ _=>aL.nil) (fun i _ hi _=>⟨trivial, ?_⟩) (fun _ _=>⟨_,_,⟨_,_,aFX a (k+(a.length:Int)) a.length,by simp,by simp⟩⟩) () trivial
 ·simpa using key
 ·have hv:=hh i (by omega) (by omega)
  have hv:=beq_iff_eq.1 hv
  have e:=aFW a (k+(i:Int)) i
  rw[aF (i:=(i:Int)+1) (by omega) (by omega),aF (i:=k+(i:Int)+1) (by omega) (by omega),Int.toNat_natCast,show k+(i:Int)+1=k+((i+1:Nat):Int)from by omega]at e
  refine⟨_,_,⟨_,_,e, ?_,by simp⟩⟩
  simp only[hv,bne_self_eq_false,beq_self_eq_true,bS,rpS]
  first|omega|(simp;omega)
def aDU:aO:=fun args h=>
 match args,h with
 |[.c (.view _ (.bools a) n1 1 _),.c (.int .i64 k)],[]=>
  some (.c (.int .i64 (k+(a.length:Int))),[],[decide (a.length≤274877906944),decide (0≤k),decide (k≤4611686018427387904),hdB k a])
 |_,_=>none
theorem aIL:aT Tryz.prog 104 aDU:=by
 intro args h res h' o hnorm he ho
 unfold aDU at he
 split at he
 case h_2=>cases he
 rename_i nl a n1 cap k
 simp only[Option.some.injEq,Prod.mk.injEq]at he
 obtain⟨rfl,rfl,rfl⟩:=he
 simp only[List.mem_cons,List.not_mem_nil,or_false,forall_eq_or_imp,forall_eq,decide_eq_true_eq]at ho
 obtain⟨o1,o2,o3,o4⟩:=ho
 simp only[b8,AV.norm,bA,aI.norm,Con.size,List.cons.injEq,AV.c.injEq,AV.agg.injEq,aI.view.injEq,aN,true_and,and_true]at hnorm
 obtain⟨rfl,rfl,rfl⟩:=hnorm
 exact mo (fn:=fHB) t77 (aGH a k (k+(a.length:Int))) (by simp) (hlc:=(fun cc hcc=>aL.cons (c:=cc) (by cases hcc;kernel_rfl) (by cases hcc;exact aID a k o1 o2 o3 o4) aL.nil))
noncomputable abbrev fEB:=Tryz.f71
noncomputable def aCQ (a:List Bool) (i:Int):St:=aS fEB.ntmps [(0,.c (.view none (.bools a) a.length 1 none)),(1,.c (.view none (.bools a) a.length 1 none)),(5,.c (.int .i64 i))] []
noncomputable def aEO:St:=aS fEB.ntmps [] []
theorem aFS (a:List Bool) (i:Int):aK 0 (aE fEB 0) (aG fEB 0) (aM tt (aH T77) ([]) 0 100 (aC 0 (aB fEB)) (aCQ a i) [(0,true),(0,false)])=
  some (.normal,(decide (i<(↑a.length:Int))&&(decide (0≤i)&&(decide (i<(↑a.length:Int))&&(decide (i.toNat<a.length)&&(decide (0≤i)&&(decide (i<(↑a.length:Int))&&(decide (i.toNat<a.length)&&((!!a.getD i.toNat false==a.getD i.toNat false)&&true)))))))),[],aCQ a (IntKind.i64.wrap (i+1))):=by kernel_rfl
theorem aFT (a:List Bool) (i:Int):aK 0 (aE fEB 0) (aG fEB 0) (aM tt (aH T77) ([]) 0 100 (aC 0 (aB fEB)) (aCQ a i) [(0,false)])=
  some (.exit 0,((!decide (i<(↑a.length:Int)))&&true),[],aEO):=by kernel_rfl
def aDH (a:List Bool):=bt2 (aJ tt (aH T77) ([(0,⟨aE fEB 0,aCQ a 0,.normal,aEO⟩)]) 100 fEB [.c (.view none (.bools a) a.length 1 none),.c (.view none (.bools a) a.length 1 none)] []) (↑a.length:Int) (P:=fun q0 q1=>q0 [(0,true)]=
  some ⟨.c (.bool false),[],((q1 !=q1)&&true),[]⟩∧q0 [(0,false)]=
  some ⟨.c (.bool true),[],((!q1 !=q1)&&true),[aCQ a 0=aCQ a 0]⟩) ⟨by kernel_rfl,by kernel_rfl⟩
def aJ2 (a:List Bool):=(aDH a).1
def aGF (a:List Bool):=(aDH a).2
theorem aIB (a:List Bool) (hn:a.length≤274877906944):
  aP none Tryz.prog 0 (.block 0 (.loop (aC 0 (aB fEB)))) (aCQ a 0) fun e t=>e=.normal∧t=aEO:=by
 refine aP.count (ro:=none) hT t77 bE (m:=0) (id:=0) (body:=aC 0 (aB fEB)) (β:=Unit) a.length (fun _ _=>True) (fun i _=>aCQ a i) (fun _=>aEO) (fun _ _=>()) (aE fEB 0) (aG fEB 0) (fun _ _=>[]) (fun _ _ _ _=>aL.nil) (fun i _ hi _=>⟨trivial, ?_⟩) (fun _ _=>⟨_,_,⟨_,_,aFT a a.length,by simp,by simp⟩⟩) () trivial
 have e:=aFS a i
 rw[aF (i:=(i:Int)+1) (by omega) (by omega),Int.toNat_natCast]at e
 refine⟨_,_,⟨_,_,e, ?_,by simp⟩⟩
 simp only[bne_self_eq_false,beq_self_eq_true,bS,rpS]
 first|omega|(simp;omega)
def aDS:aO:=fun args h=>
 match args,h with
 |[.c (.view _ (.bools a) n1 1 _),.c (.view _ (.bools b) n2 1 _)],[]=>
  some (.c (.bool true),[],[decide (a.length≤274877906944),decide (a=b)])
 |_,_=>none
theorem aIJ:aT Tryz.prog 71 aDS:=by
 intro args h res h' o hnorm he ho
 unfold aDS at he
 split at he
 case h_2=>cases he
 rename_i nl a n1 cap nl2 b n2 cap2
 simp only[Option.some.injEq,Prod.mk.injEq]at he
 obtain⟨rfl,rfl,rfl⟩:=he
 simp only[List.mem_cons,List.not_mem_nil,or_false,forall_eq_or_imp,forall_eq,decide_eq_true_eq]at ho
 obtain⟨o1,o2⟩:=ho
 simp only[b8,AV.norm,bA,aI.norm,Con.size,List.cons.injEq,AV.c.injEq,AV.agg.injEq,aI.view.injEq,aN,true_and,and_true]at hnorm
 obtain⟨⟨rfl,rfl,rfl⟩,rfl,rfl,rfl⟩:=hnorm
 subst o2
 exact mo (fn:=fEB) t77 (aGF a) (by simp) (hlc:=(fun cc hcc=>aL.cons (c:=cc) (by cases hcc;kernel_rfl) (by cases hcc;exact aIB a o1) aL.nil))
theorem aGN (a:List Bool) (l:Int):aJ tt (aH T77) ([]) 100 Tryz.f66 [.c (.view none (.bools a) a.length 1 none),.c (.int .i64 l)] [] [(0,true)]=
  some ⟨.c (.int .i64 (-1)),[],((decide (IntKind.i64.wrap (l-(↑a.length:Int))<0))&&true),[]⟩:=by kernel_rfl
theorem aGO (a:List Bool) (l:Int):aJ tt (aH T77) ([]) 100 Tryz.f66 [.c (.view none (.bools a) a.length 1 none),.c (.int .i64 l)] [] [(0,false)]=
  some ⟨.c (.int .i64 (IntKind.i64.wrap (l-(↑a.length:Int)))),[],((!decide (IntKind.i64.wrap (l-(↑a.length:Int))<0))&&true),[]⟩:=by kernel_rfl
def aDZ:aO:=fun args h=>
 match args,h with
 |[.c (.view _ (.bools a) n1 1 _),.c (.int .i64 l)],[]=>
  some (.c (.int .i64 (szF l a.length)),[],[decide (a.length≤9223372036854775807),decide (0≤l),decide (l≤1048576)])
 |_,_=>none
theorem aIR:aT Tryz.prog 66 aDZ:=by
 intro args h res h' o hnorm he ho
 unfold aDZ at he
 split at he
 case h_2=>cases he
 rename_i nl a n1 cap l
 simp only[Option.some.injEq,Prod.mk.injEq]at he
 obtain⟨rfl,rfl,rfl⟩:=he
 simp only[List.mem_cons,List.not_mem_nil,or_false,forall_eq_or_imp,forall_eq,decide_eq_true_eq]at ho
 obtain⟨o1,o2,o3⟩:=ho
 simp only[b8,AV.norm,bA,aI.norm,Con.size,List.cons.injEq,AV.c.injEq,AV.agg.injEq,aI.view.injEq,aN,true_and,and_true]at hnorm
 obtain⟨rfl,rfl,rfl⟩:=hnorm
 unfold szF
 have w:IntKind.i64.wrap (l-(a.length:Int))=l-(a.length:Int):=by
  simp only[IntKind.wrap,IntKind.bits,IntKind.signed];simp;omega
 cases c:decide (l-(a.length:Int)<0)with
 |true=>exact mo t77 (aGN a l) (by rw[w,c];rfl)
 |false=>
  have e:=aGO a l
  rw[w]at e
  exact mo t77 e (by rw[c];rfl)
end
section
noncomputable def T80:List aZ:=[⟨245,[],nm aE4⟩,⟨67,[],nm aE3⟩,⟨172,[0],aDY⟩,⟨103,[0],aDX⟩,⟨185,[],nm aDV⟩,⟨104,[],nm aDU⟩,⟨247,[],nm aDT⟩,⟨71,[],nm aDS⟩,⟨237,[],nm aE0⟩,⟨66,[],nm aDZ⟩,⟨135,[],nm xY⟩]++T77
theorem e80:aA Tryz.prog T80:=by
 refine aA.append ?_ e77
 intro e he
 simp only[List.mem_cons,List.not_mem_nil,or_false]at he
 rcases he with rfl|rfl|rfl|rfl|rfl|rfl|rfl|rfl|rfl|rfl|rfl
 ·exact aIQ.ok
 ·exact aIP.ok
 ·exact aIO
 ·exact aIN
 ·exact aIM.ok
 ·exact aIL.ok
 ·exact aIK.ok
 ·exact aIJ.ok
 ·exact aIS.ok
 ·exact aIR.ok
 ·exact m18.ok
theorem t80:bL Tryz.prog (aH T80):=aQ e80
theorem aC1 {l:Int} {n:Nat} (h:l-(n:Int)<0):szF l n= -1:=by unfold szF;rw[decide_eq_true h];rfl
theorem aC2 {l:Int} {n:Nat} (h: ¬(l-(n:Int)<0)):szF l n=l-n:=by unfold szF;rw[decide_eq_false h];rfl
theorem aEH {n:Nat} (h: ¬(szF 1048576 n<0)):n≤1048576:=by
 by_cases c:(1048576:Int)-(n:Int)<0
 ·rw[aC1 c]at h;omega
 ·omega
theorem aI3 (k:Int) (a:List Int):(aD2 k a).length=a.length:=(aCM k a).1
theorem aI2 (k:Int) (a:List Bool):(aD1 k a).length=a.length:=(aCL k a).1
def aCP (k l:Int) (a b:List Int) (c:List Bool):=bt2 (aJ tt (aH T80) ([]) 100 Tryz.f236 [.agg [.int .i64 k,.view none (.ints .i64 a) a.length 1 none,.view none (.ints .i64 b) b.length 1 none,.view none (.bools c) c.length 1 none],.c (.int .i64 l)] []) (szF l a.length) (P:=fun q0 q1=>q0 [(0,true)]=
  some ⟨.c (.int .i64 (-1)),[],(decide (a.length≤9223372036854775807)&&(decide (0≤l)&&(decide (l≤1048576)&&((decide (szF l a.length<0))&&true)))),[]⟩∧q0 [(0,false),(0,true)]=
  some ⟨.c (.int .i64 (-1)),[],(decide (a.length≤9223372036854775807)&&(decide (0≤l)&&(decide (l≤1048576)&&(!decide (szF l a.length<0)&&(decide (b.length≤9223372036854775807)&&(decide (0≤szF l a.length)&&(decide (szF l a.length≤1048576)&&((decide (szF q1 b.length<0))&&true)))))))),[]⟩∧q0 [(0,false),(0,false),(0,true)]=
  some ⟨.c (.int .i64 (-1)),[],(decide (a.length≤9223372036854775807)&&(decide (0≤l)&&(decide (l≤1048576)&&(!decide (szF l a.length<0)&&(decide (b.length≤9223372036854775807)&&(decide (0≤szF l a.length)&&(decide (szF l a.length≤1048576)&&(!decide (szF q1 b.length<0)&&(decide (c.length≤9223372036854775807)&&(decide (0≤szF q1 b.length)&&(decide (szF q1 b.length≤1048576)&&((decide (szF (szF q1 b.length) c.length<0))&&true)))))))))))),[]⟩∧q0 [(0,false),(0,false),(0,false)]=
  some ⟨.c (.int .i64 (szF (szF q1 b.length) c.length)),[],(decide (a.length≤9223372036854775807)&&(decide (0≤l)&&(decide (l≤1048576)&&(!decide (szF l a.length<0)&&(decide (b.length≤9223372036854775807)&&(decide (0≤szF l a.length)&&(decide (szF l a.length≤1048576)&&(!decide (szF q1 b.length<0)&&(decide (c.length≤9223372036854775807)&&(decide (0≤szF q1 b.length)&&(decide (szF q1 b.length≤1048576)&&((!decide (szF (szF q1 b.length) c.length<0))&&true)))))))))))),[]⟩) ⟨by kernel_rfl,by kernel_rfl,by kernel_rfl,by kernel_rfl⟩
def aHS (k l:Int) (a b:List Int) (c:List Bool):=(aCP k l a b c).1
def aHT (k l:Int) (a b:List Int) (c:List Bool):=(aCP k l a b c).2.1
def aHU (k l:Int) (a b:List Int) (c:List Bool):=(aCP k l a b c).2.2.1
def aHV (k l:Int) (a b:List Int) (c:List Bool):=(aCP k l a b c).2.2.2
def aE2:aO:=fun args h=>
 match args,h with
 |[.agg [.int .i64 k,.view _ (.ints .i64 a) n1 1 _,.view _ (.ints .i64 b) n2 1 _,.view _ (.bools c) n3 1 _],.c (.int .i64 l)],[]=>
  some (.c (.int .i64 (szF l (a.length+b.length+c.length))),[],[decide (a.length≤9223372036854775807),decide (b.length≤9223372036854775807),decide (c.length≤9223372036854775807),decide (0≤l),decide (l≤1048576)])
 |_,_=>none
theorem mZS:aT Tryz.prog 236 aE2:=by
 intro args h res h' o hnorm he ho
 unfold aE2 at he
 split at he
 case h_2=>cases he
 rename_i k nl1 a n1 cap1 nl2 b n2 cap2 nl3 c n3 cap3 l
 simp only[Option.some.injEq,Prod.mk.injEq]at he
 obtain⟨rfl,rfl,rfl⟩:=he
 simp only[List.mem_cons,List.not_mem_nil,or_false,forall_eq_or_imp,forall_eq,decide_eq_true_eq]at ho
 obtain⟨o1,o2,o3,o4,o5⟩:=ho
 simp only[b8,AV.norm,bA,aI.norm,Con.size,List.cons.injEq,AV.c.injEq,AV.agg.injEq,aI.view.injEq,aN,true_and,and_true]at hnorm
 obtain⟨⟨rfl,rfl,rfl⟩,⟨rfl,rfl,rfl⟩,rfl,rfl,rfl⟩:=hnorm
 by_cases h1:l-(a.length:Int)<0
 ·rw[aC1 (n:=a.length+b.length+c.length) (by omega)]
  exact mo t80 (aHS k l a b c) (by simp[aC1 h1,o1,o4,o5])
 ·by_cases h2:l-(a.length:Int)-(b.length:Int)<0
  ·rw[aC1 (n:=a.length+b.length+c.length) (by omega)]
   exact mo t80 (aHT k l a b c) (by simp[aC2 h1,aC1 h2,o1,o2,o4,o5];omega)
  ·by_cases h3:l-(a.length:Int)-(b.length:Int)-(c.length:Int)<0
   ·rw[aC1 (n:=a.length+b.length+c.length) (by omega)]
    exact mo t80 (aHU k l a b c) (by simp[aC2 h1,aC2 h2,aC1 h3,o1,o2,o3,o4,o5];omega)
   ·have e:=aHV k l a b c
    rw[aC2 h1,aC2 h2,aC2 h3]at e
    rw[aC2 (n:=a.length+b.length+c.length) (by omega),show l-((a.length+b.length+c.length:Nat):Int)=l-(a.length:Int)-(b.length:Int)-(c.length:Int)from by omega]
    exact mo t80 e (by simp[o1,o2,o3,o4,o5];omega)
theorem aI6:aR Tryz.prog 246 (dW tt (aH T80) Tryz.f246 [(0,false)]):=cJ hT t80 bE _ (by kernel_rfl) (by kernel_rfl)
theorem aJ1:aR Tryz.prog 244 (dW tt (aH T80) Tryz.f244 []):=cJ hT t80 bE _ (by kernel_rfl) (by kernel_rfl)
noncomputable def T81:List aZ:=[⟨236,[],nm aE2⟩,⟨246,[],dW tt (aH T80) Tryz.f246 [(0,false)]⟩,⟨244,[],dW tt (aH T80) Tryz.f244 []⟩]++T80
theorem e81:aA Tryz.prog T81:=by
 refine aA.append ?_ e80
 intro e he
 simp only[List.mem_cons,List.not_mem_nil,or_false]at he
 rcases he with rfl|rfl|rfl
 ·exact mZS.ok
 ·exact aI6
 ·exact aJ1
theorem t81:bL Tryz.prog (aH T81):=aQ e81
def aDE (x:PK) (l:Int):=bt2 (x.2.length+x.3.length+x.4.length) (aJ tt (aH T81) ([]) 100 Tryz.f202 [.agg x.vcells,.c (.int .i64 l)] []) (P:=fun q0 q1=>q1 [(0,true)]=
  some ⟨.c (.int .i64 (-1)),[],(decide (x.2.length≤9223372036854775807)&&(decide (x.3.length≤9223372036854775807)&&(decide (x.4.length≤9223372036854775807)&&(decide (0≤l)&&(decide (l≤1048576)&&((decide (szF l q0<0))&&true)))))),[]⟩∧q1 [(0,false),(0,true)]=
  some ⟨.c (.int .i64 (-1)),[],(decide (x.2.length≤9223372036854775807)&&(decide (x.3.length≤9223372036854775807)&&(decide (x.4.length≤9223372036854775807)&&(decide (0≤l)&&(decide (l≤1048576)&&(!decide (szF l q0<0)&&(decide (x.7.length≤9223372036854775807)&&(decide (0≤szF l q0)&&(decide (szF l q0≤1048576)&&((decide (szF (szF l q0) x.7.length<0))&&true)))))))))),[]⟩∧q1 [(0,false),(0,false)]=
  some ⟨.c (.int .i64 (szF (szF l q0) x.7.length)),[],(decide (x.2.length≤9223372036854775807)&&(decide (x.3.length≤9223372036854775807)&&(decide (x.4.length≤9223372036854775807)&&(decide (0≤l)&&(decide (l≤1048576)&&(!decide (szF l q0<0)&&(decide (x.7.length≤9223372036854775807)&&(decide (0≤szF l q0)&&(decide (szF l q0≤1048576)&&((!decide (szF (szF l q0) x.7.length<0))&&true)))))))))),[]⟩) ⟨by kernel_rfl,by kernel_rfl,by kernel_rfl⟩
def aHP (x:PK) (l:Int):=(aDE x l).1
def aHQ (x:PK) (l:Int):=(aDE x l).2.1
def aHR (x:PK) (l:Int):=(aDE x l).2.2
def aE1:aO:=fun args h=>
 match args,h with
 |[.agg [.int .i64 k,.view _ (.ints .i64 a) n1 1 _,.view _ (.ints .i64 b) n2 1 _,.view _ (.bools c) n3 1 _,.bool on,.int .i64 kd,.view _ (.ints .i64 d) n4 1 _,.int .i64 vs],.c (.int .i64 l)],[]=>
  some (.c (.int .i64 (szF l (a.length+b.length+c.length+d.length))),[],[decide (a.length≤9223372036854775807),decide (b.length≤9223372036854775807),decide (c.length≤9223372036854775807),decide (d.length≤9223372036854775807),decide (0≤l),decide (l≤1048576)])
 |_,_=>none
theorem mZK:aT Tryz.prog 202 aE1:=by
 intro args h res h' o hnorm he ho
 unfold aE1 at he
 split at he
 case h_2=>cases he
 rename_i k nl1 a n1 cap1 nl2 b n2 cap2 nl3 c n3 cap3 on kd nl4 d n4 cap4 vs l
 simp only[Option.some.injEq,Prod.mk.injEq]at he
 obtain⟨rfl,rfl,rfl⟩:=he
 simp only[List.mem_cons,List.not_mem_nil,or_false,forall_eq_or_imp,forall_eq,decide_eq_true_eq]at ho
 obtain⟨o1,o2,o3,o4,o5,o6⟩:=ho
 simp only[b8,AV.norm,bA,aI.norm,Con.size,List.cons.injEq,AV.c.injEq,AV.agg.injEq,aI.view.injEq,aN,true_and,and_true]at hnorm
 obtain⟨⟨rfl,rfl,rfl⟩,⟨rfl,rfl,rfl⟩,⟨rfl,rfl,rfl⟩,rfl,rfl,rfl⟩:=hnorm
 by_cases h1:l-((a.length+b.length+c.length:Nat):Int)<0
 ·rw[aC1 (n:=a.length+b.length+c.length+d.length) (by omega)]
  exact mo t81 (aHP ⟨k,a,b,c,on,kd,d,vs⟩ l) (by simp[aC1 h1,o1,o2,o3,o5,o6])
 ·by_cases h2:l-((a.length+b.length+c.length:Nat):Int)-(d.length:Int)<0
  ·rw[aC1 (n:=a.length+b.length+c.length+d.length) (by omega)]
   exact mo t81 (aHQ ⟨k,a,b,c,on,kd,d,vs⟩ l) (by simp only[aC2 h1,aC1 h2,o1,o2,o3,o4,o5,o6,decide_true,rpS];simp;omega)
  ·have e:=aHR ⟨k,a,b,c,on,kd,d,vs⟩ l
   simp only[aC2 h1,aC2 h2]at e
   rw[aC2 (n:=a.length+b.length+c.length+d.length) (by omega),show l-((a.length+b.length+c.length+d.length:Nat):Int)=l-((a.length+b.length+c.length:Nat):Int)-(d.length:Int)from by omega]
   exact mo t81 e (by simp only[o1,o2,o3,o4,o5,o6,decide_true,rpS];simp;omega)
theorem aI5:aR Tryz.prog 210 (dW tt (aH T81) Tryz.f210 [(1,false),(0,false),(1,false)]):=cJ hT t81 bE _ (by kernel_rfl) (by kernel_rfl)
theorem aJ0:aR Tryz.prog 209 (dW tt (aH T81) Tryz.f209 []):=cJ hT t81 bE _ (by kernel_rfl) (by kernel_rfl)
noncomputable def T82:List aZ:=[⟨202,[],nm aE1⟩,⟨210,[],dW tt (aH T81) Tryz.f210 [(1,false),(0,false),(1,false)]⟩,⟨209,[],dW tt (aH T81) Tryz.f209 []⟩]++T81
theorem e82:aA Tryz.prog T82:=by
 refine aA.append ?_ e81
 intro e he
 simp only[List.mem_cons,List.not_mem_nil,or_false]at he
 rcases he with rfl|rfl|rfl
 ·exact mZK.ok
 ·exact aI5
 ·exact aJ0
theorem t82:bL Tryz.prog (aH T82):=aQ e82
end
section
end
section
theorem fC.slots {m:Nat} {ts:List AV} {h h':List aV} (hs:rW h h'):fC m ⟨ts,h⟩ ⟨ts,h'⟩:=fun X w0 ρ0 ρ a w h0 r=>
 ⟨ρ,r.size,r.tmps,⟨fun id=>kK hs id _ _ _ _ (r.mem.slot id),r.mem.inj,r.mem.own,r.mem.os,r.mem.tape,r.mem.output,r.mem.size,r.mem.keep,r.mem.foreign⟩,r.defers,r.mono,r.ids⟩
section
variable {ro : Option Nat} {P : Program} {tt : Tab} (hT : iK P tt) {ct : CT} (hct : bL P ct) (bE : P.follows .mixedOrders = true)
include hT hct bE
end
end
section
theorem bF.kill {P:Program} {f:FuncId} {args:List AV} {h h':List aV} {res:AV} (hm:bF P f args h res h') {id:Nat} {c:Con} (hs:Heap.get h' id=.live c):bF P f args h res (h'.set id .dead):=by
 refine⟨hm.1,fun {X w0 ρ0} m vs hl hv=> ?_⟩
 refine Calls.mono (hm.2 m vs hl hv) ?_
 rintro e w' ⟨v,ρ',rfl,mb,im,m',hx⟩
 obtain⟨mo,m2⟩:=m'.kill (id:=id) (by rw[hs];simp)
 exact⟨v,_,rfl,mb.trans mo.toB,im.trans mo.ids,m2,hx.mono mo⟩
end
section
def nilV:aI→aI→Prop
 |x,y=>x=y∨(x=.nils∧ ∃c es cap,y=.view none c 0 es cap∧c.size=0∧ ∀k,cap=some k→k=0)
theorem nilV.sound {X:Nat→Prop} {w:World} {ρ:Rho} {x y:aI} {v:Value} (h:nilV x y) (hx:CR X w ρ x v):CR X w ρ y v:=by
 rcases h with rfl|⟨rfl,c,es,cap,rfl,hz,hc⟩
 ·exact hx
 ·cases hx
  exact .viewNone none c es cap none 0 hz (fun k hk=>(hc k hk).symm) (fun _ h=>by cases h) (fun _=>rfl)
def jM:List aI→List aI→Prop
 |[],[]=>True
 |x::r,y::s=>nilV x y∧jM r s
 |_,_=>False
theorem jM.len: ∀ {l m:List aI},jM l m→l.length=m.length
 |[],[],_=>rfl
 |_::_,_::_,h=>by simp[jM.len h.2]
 |[],_::_,h=>h.elim
 |_::_,[],h=>h.elim
theorem jM.get: ∀ {l m:List aI},jM l m→ ∀i,nilV (l.getD i .any) (m.getD i .any)
 |[],[],_,_=> .inl rfl
 |_::_,_::_,h,0=>h.1
 |_::r,_::s,h,i+1=>by simpa using jM.get h.2 i
 |[],_::_,h,_=>h.elim
 |_::_,[],h,_=>h.elim
theorem fJ.nilV {l m:List aI} (h:jM l m):fJ (.live (.cells l)) (.live (.cells m)):=fun X w ρ x hs=>by
 cases x with
 |unborn=>exact hs.elim
 |dead=>exact hs.elim
 |nil=>simp only[eO,Con.size]at hs⊢;rw[←h.len];exact hs
 |row b=>
  obtain⟨cs,ty,h1,h2,h3⟩:=hs
  refine⟨cs,ty,h1,by simp only[Con.size]at h2⊢;rw[←h.len];exact h2,fun q hq=> ?_⟩
  simp only[Con.size]at hq
  have:=h3 q (by simp only[Con.size];rw[h.len];exact hq)
  exact(h.get q).sound this
def qN:AV→AV→Prop
 |.c x,.c y=>nilV x y
 |.agg l,.agg m=>jM l m
 |x,y=>x=y
theorem qN.sound {X:Nat→Prop} {w:World} {ρ:Rho} {x y:AV} {v:Value} (h:qN x y) (hx:AVR X w ρ x v):AVR X w ρ y v:=by
 cases x with
 |c x=>
  cases y with
  |c y=>cases hx with|c _ _ hx=>exact .c _ _ (nilV.sound h hx)
  |_=>exact absurd h (by simp[qN])
 |agg l=>
  cases y with
  |agg m=>cases hx with|agg _ vs hs hx=>exact .agg _ _ (by rw[←jM.len h];exact hs) fun i hi=>(jM.get h i).sound (hx i (by rw[jM.len h];exact hi))
  |_=>exact absurd h (by simp[qN])
 |any=>simp only[qN]at h;subst h;exact hx
 |tup l=>simp only[qN]at h;subst h;exact hx
def qO:List AV→List AV→Prop
 |[],[]=>True
 |x::r,y::s=>qN x y∧qO r s
 |_,_=>False
theorem qO.len: ∀ {l m:List AV},qO l m→l.length=m.length
 |[],[],_=>rfl
 |_::_,_::_,h=>by simp[qO.len h.2]
 |[],_::_,h=>h.elim
 |_::_,[],h=>h.elim
theorem qO.get: ∀ {l m:List AV},qO l m→ ∀i,qN (l.getD i (.tup [])) (m.getD i (.tup []))
 |[],[],_,_=>rfl
 |_::_,_::_,h,0=>h.1
 |_::r,_::s,h,i+1=>by simpa using qO.get h.2 i
 |[],_::_,h,_=>h.elim
 |_::_,[],h,_=>h.elim
theorem bF.nilV {P:Program} {f:FuncId} {args:List AV} {h h':List aV} {l m:List AV} (hm:bF P f args h (.tup l) h') (hl:qO l m):bF P f args h (.tup m) h':=by
 refine⟨hm.1,fun {X w0 ρ0} mm vs hl' hv=> ?_⟩
 refine Calls.mono (hm.2 mm vs hl' hv) ?_
 rintro e w' ⟨v,ρ',rfl,mb,im,m',hx⟩
 refine⟨v,_,rfl,mb,im,m', ?_⟩
 cases hx with
 |tup _ us hus hx=>exact .tup _ us (by rw[←hl.len];exact hus) fun i hi=>(hl.get i).sound (hx i (by rw[hl.len];exact hi))
end
section
variable {X : Nat → Prop}
theorem aL.blk {ro:Option Nat} {P:Program} {m id:Nat} {c b:Code} {x:LC} {lc:List (Nat×LC)} (hb:oM id c=[b]) (g:aP ro P m (.block id b) x.pre fun e s=>e=x.ex∧s=x.post) (r:aL ro P m lc c):
  aL ro P m ((id,x)::lc) c:=by
 intro q hq y hy
 simp only[tH]at hy
 split at hy
 ·rename_i e
  injection hy with hy;subst hy
  have hm:q.2∈oM id c:=List.mem_map.2 ⟨q,List.mem_filter.2 ⟨hq,by simp[e]⟩,rfl⟩
  rw[hb,List.mem_singleton]at hm
  rw[hm,←e];exact g
 ·exact r q hq y hy
theorem P2 {ro:Option Nat} {P:Program} {tt:Tab} (hT:iK P tt) {ct:CT} (hct:bL P ct) (bE:P.follows .mixedOrders=true) {m n:Nat} {c:Code} {s t:St} {p:gJ} {live liveX:List Nat} {lc:List (Nat×LC)} {e:Ex} {b:Bool} {q:List Prop}
  (h:aK m live liveX (aM tt ct lc m n c s p)=some (e,b,q,t)) (hb:b=true) (hq: ∀x∈q,x) (hlc:aL ro P m lc c):aP ro P m c s fun e' t'=>e'=e∧t'=t:=by
 unfold aK at h
 obtain⟨o,ho,h⟩:=Option.map_eq_some_iff.1 h
 simp only[Prod.mk.injEq]at h
 obtain⟨h1,h2,h3,h4⟩:=h
 rw[hb]at h2
 refine((k7 hT hct bE n ho (kR h2) (by rw[h3];exact hq) hlc).1).weaken fun e' t' ⟨g1,g2⟩=>⟨_,fC.fit m (bif tT o.ex then live else liveX) t',by rw[g1,h1],by rw[g2];exact h4⟩
section
variable {w w' : World} (hc : ∀ a v, w.cell? a = some v → w'.cell? a = some v) (hs : ∀ b x, w.shape? b = some x → w'.shape? b = some x)
include hc hs
theorem CR0.keepC {L:Nat→Prop} {ρ:Rho} {c:aI} {v:Value} (h:CR0 w L ρ c v):CR0 w' L ρ c v:=by
 induction h with
 |any v h=>exact .any v h
 |int k n=>exact .int k n
 |bool b=>exact .bool b
 |str s=>exact .str s
 |nilp=>exact .nilp
 |nils=>exact .nils
 |nilf=>exact .nilf
 |ptrDead id i es j v hd h=>exact .ptrDead id i es j v hd h
 |ptr id i es j b hb=>exact .ptr id i es j b hb
 |slDead id o len es cap v hd h=>exact .slDead id o len es cap v hd h
 |sl id o len es cap b c ty n hb hs' hn hl hc=>exact .sl id o len es cap b c ty n hb (hs _ _ hs') hn hl hc
 |slNone id o es cap a h1 hc=>exact .slNone id o es cap a h1 hc
 |vptr c i es j b base u hl hc' hu ih=>exact .vptr c i es j b base u hl (fun q hq=>hc _ _ (hc' q hq)) ih
 |view nl c len es cap b base k u hl hc' hu hz hk hcap hnl ih=>exact .view nl c len es cap b base k u hl (fun q hq=>hc _ _ (hc' q hq)) ih hz hk hcap hnl
 |viewNone nl c es cap a k hz hcap hnl hk=>exact .viewNone nl c es cap a k hz hcap hnl hk
 |fn f caps vs hs h ih=>exact .fn f caps vs hs ih
theorem AVR.keepC {ρ:Rho} {x:AV} {v:Value} (h:AVR X w ρ x v):AVR X w' ρ x v:=by
 induction h with
 |any v=>exact .any v
 |c x v h=>exact .c x v (CR0.keepC hc hs h)
 |agg cs vs hs' h=>exact .agg cs vs hs' fun i hi=>CR0.keepC hc hs (h i hi)
 |tup l vs hs' h ih=>exact .tup l vs hs' ih
end
theorem Mem.grown {w0 w w':World} {M:Nat→Prop} {h:List aV} {ρ:Rho} (m:Mem X w0 M h ρ w) {row:Option Nat} (hg:w.grownBy w' row)
  (hr: ∀r,row=some r→w0.heap.size≤r∧ ∃o:Obj,w.heap[r]? =some o∧o.isCells=false):
  Mem X w0 M h ρ w'∧(∀a v,w.cell? a=some v→w'.cell? a=some v)∧(∀b x,w.shape? b=some x→w'.shape? b=some x):=by
 have hc: ∀a v,w.cell? a=some v→w'.cell? a=some v:=fun a v h=>cell_kept h hg fun r e=>(hr r e).2
 have hs: ∀b x,w.shape? b=some x→w'.shape? b=some x:=fun b x h=>by
  unfold World.shape? at h
  split at h
  ·rename_i cs el mk hb
   have:=grownBy_keeps_cells hg (fun r e=>(hr r e).2) hb rfl
   unfold World.shape?;rw[this,hb];exact h
  ·cases h
 refine⟨⟨fun id=> ?_,m.inj,m.own,hg.os.trans m.os,hg.tape.trans m.tape,hg.output.trans m.output,Nat.le_trans m.size hg.size,fun k hk hM=> ?_,m.foreign⟩,hc,hs⟩
 ·have hs':=m.slot id
  cases hg':Heap.get h id<;>cases hr':ρ id<;>rw[hg',hr']at hs'<;>try exact hs'
  obtain⟨cs,ty,e,h1,h2⟩:=hs'
  exact⟨cs,ty,(grownBy_keeps_cells hg (fun r e=>(hr r e).2) e rfl).trans e,h1,fun q hq=>CR0.keepC hc hs (h2 q hq)⟩
 ·rw[hg.block k (Nat.lt_of_lt_of_le hk m.size) (fun e=>by have:=(hr k e.symm).1;omega)];exact m.keep k hk hM
theorem AVR.monoB {w w':World} {ρ ρ':Rho} (m:cY w (b9 ρ) w' (b9 ρ')) (im:cC ρ ρ') {x:AV} {v:Value} (h:AVR X w ρ x v):AVR X w' ρ' x v:=by
 induction h with
 |any v=>exact .any v
 |c x v h=>exact .c x v (CR0.mono (m.or X) h im)
 |agg cs vs hs h=>exact .agg cs vs hs fun i hi=>CR0.mono (m.or X) (h i hi) im
 |tup l vs hs h ih=>exact .tup l vs hs ih
theorem Mem.outer {w0 w w':World} {M:Nat→Prop} {h h':List aV} {ρ ρ':Rho} (m:Mem X w0 M h ρ w) (m':Mem X w (b9 ρ) h' ρ' w'):Mem X w0 M h' ρ' w':=by
 refine⟨m'.slot,m'.inj,fun id b hb=> ?_,m'.os.trans m.os,m'.tape.trans m.tape,m'.output.trans m.output,Nat.le_trans m.size m'.size,fun k hk hM=> ?_,m.foreign⟩
 ·rcases m'.own id b hb with h|⟨j,hj⟩
  ·exact .inl (Nat.le_trans m.size h)
  ·exact m.own j b hj
 ·rw[m'.keep k (Nat.lt_of_lt_of_le hk m.size) (fun⟨j,hj⟩=> ?_)]
  ·exact m.keep k hk hM
  ·rcases m.own j k hj with h|h
   ·omega
   ·exact hM h
theorem Mem.noRow {w0 w:World} {M:Nat→Prop} {h:List aV} {ρ:Rho} (m:Mem X w0 M h ρ w) {D:Nat} {o:Obj} (hd:w.heap[D]? =some o) (ho:o.isCells=false): ¬b9 ρ D:=fun⟨id,hid⟩=>by
 have hs:=m.slot id
 rw[hid]at hs
 cases hg:Heap.get h id<;>rw[hg]at hs
 case live c=>
  obtain⟨cs,ty,e,_⟩:=hs
  rw[hd]at e;cases e;cases ho
 all_goals exact hs
theorem X6 {ro:Option Nat} {P:Program} {c:Code} {Q:Exit→Act→World→Prop} {a:Act} {w:World} {n n':Nat} (h:c.wpIn (FW ro) n P Q a w):c.wpIn (FW ro) n' P Q a w:=
 fun b k cs h1 h2 _=>h b k cs h1 h2 (fun _ h=>by cases h)
theorem Rel.remap0 {w0 w:World} {ρ0 ρ:Rho} {s:St} {a:Act} (r:Rel X w0 ρ0 s ρ a w) (h0: ∀k,ρ0 k=.unborn) {live order:List Nat} (hn:cS order=true):Rel X w0 ρ0 (Am.remap live order s) (cE s.heap order ρ) a w:=by
 refine⟨by simp[Am.remap,fE,r.size],fun t ht=> ?_,r.mem.ren hn,r.defers,r.mono.trans ⟨fun _ _ _=>rfl,fun _ _=>rfl,Nat.le_refl _,fun b hb=> .inl (dE _ _ _ b hb)⟩,⟨fun id h=> ?_,fun id h=> ?_,fun id b h=> ?_⟩⟩
 ·simp only[Am.remap,fE]at ht⊢
  rw[mH _ _ _ _ _ ht]
  cases live.elem (0+t)with
  |false=>exact .any _
  |true=>exact(r.tmps t ht).ren (dE _ _ _) (eG _ _ _)
 all_goals (rw[h0 id]at h;cases h)
theorem C1 {w:World} {ρ:Rho} {c:Con} {x:Wh} (h:eO X w ρ (.live c) x) (hc:0<c.size): ∃b,x=.row b∧H0 X w ρ c b:=by
 cases x with
 |row b=>exact⟨b,rfl,h⟩
 |nil=>have:c.size=0:=h;omega
 |unborn=>exact h.elim
 |dead=>exact h.elim
theorem BV {w:World} {ρ:Rho} {c:Con} {b q:Nat} (h:H0 X w ρ c b) (hq:q<c.size): ∃v,w.cell? ⟨b,q,none⟩=some v∧CR X w ρ (c.cell q) v:=by
 obtain⟨cs,ty,e,h1,h2⟩:=h
 have hl:q<cs.size:=by omega
 refine⟨cs.getD q undef, ?_,h2 q hq⟩
 unfold World.cell?
 simp[e,Array.getD,hl]
theorem GH {w:World} {ρ:Rho} {id b:Nat} {v:Value} (h:CR X w ρ (.ptr id 0 0 0) v) (hb:ρ id=.row b):v=.pointer (some ⟨b,0,none⟩):=by
 cases h with
 |ptrDead _ _ _ _ _ hd _=>rw[hb]at hd;cases hd
 |ptr _ _ _ _ b' hb'=>rw[hb]at hb';cases hb';rfl
theorem Mem.base {w0 w:World} {M:Nat→Prop} {h:List aV} {ρ:Rho} (m:Mem X w0 M h ρ w):Mem X w (b9 ρ) h ρ w:=
 ⟨m.slot,m.inj,fun id b hb=> .inr ⟨id,hb⟩,rfl,rfl,rfl,Nat.le_refl _,fun _ _ _=>rfl,fun b hx=>⟨Nat.lt_of_lt_of_le (m.foreign b hx).1 m.size,fun⟨id,hid⟩=>m.notX hid hx⟩⟩
theorem cY.grown {w W W':World} {L L':Nat→Prop} (m:cY w L W L') {row:Option Nat} (hg:W.grownBy W' row) (hr: ∀r,row=some r→w.heap.size≤r):cY w L W' L':=by
 have hb: ∀b,b<w.heap.size→W'.heap[b]? =W.heap[b]? :=fun b hb=>hg.block b (Nat.lt_of_lt_of_le hb m.size) fun e=>by have:=hr b e.symm;omega
 refine⟨fun b h hL=>(hb b h).trans (m.keep b h hL),fun b h=> ?_,Nat.le_trans m.size hg.size,m.fresh⟩
 rw[←m.shape b h];unfold World.shape?;rw[hb b h]
theorem uF {d:AV}: ∀ {l:List (Nat×AV)} {ts:List AV} {t:Nat},t∉l.map (·.1)→(yY l ts).getD t d=ts.getD t d
 |[],ts,t,_=>rfl
 |(i,v)::r,ts,t,h=>by
  simp only[List.map_cons,List.mem_cons,not_or]at h
  simp only[yY]
  rw[uF h.2,List.getD_eq_getElem?_getD,List.getElem?_set_ne (fun e=>h.1 e.symm),←List.getD_eq_getElem?_getD]
theorem N9 {n t:Nat} {l:List (Nat×AV)} {h:List aV} {d:AV} (ht:t<n) (hn:t∉l.map (·.1)):(aS n l h).tmps.getD t d=.any:=by
 unfold aS
 dsimp only
 rw[uF hn,List.getD_eq_getElem?_getD,List.getElem?_replicate,if_pos ht];rfl
def nV:Code→Option Code
 |.rangeFunc _ _ a _=>some a
 |.seq a b=>match nV a with|some c=>some c|none=>nV b
 |.cond _ a b=>match nV a with|some c=>some c|none=>nV b
 |.block _ c=>nV c
 |.loop c=>nV c
 |_=>none
def TQ (c:Code) (d s:Nat):Bool:=
 match c with
 |.region _ ops false=>(match ops.toList with
  |[o]=>(match o.dst with|some x=>x==d|none=>false)&&((match o.op with|.assign (.tmp t)=>t==s|_=>false)&&(match o.guard with|none=>true|_=>false))
  |_=>false)
 |_=>false
theorem NI {F:Fence} {n:Nat} {P:Program} {c:Code} {d s:Nat} (hb:TQ c d s=true) {K:Act→World→Prop} {Q:Exit→Act→World→Prop} {a:Act} {w:World} (h:K (a.put (some d) (a.eval (.tmp s))) w):c.wpIn F n P (Exit.then K Q) a w:=by
 unfold TQ at hb
 split at hb
 ·rename_i id ops
  split at hb
  ·rename_i o ho
   obtain⟨l⟩:=ops
   simp only at ho
   subst ho
   obtain⟨dst,op,ty,pos,after,guard⟩:=o
   simp only[Bool.and_eq_true,rpS]at hb
   obtain⟨b1,b2,b3⟩:=hb
   split at b1<;>simp at b1
   subst b1
   split at b2<;>simp at b2
   subst b2
   split at b3<;>simp at b3
   refine wpIn_region ?_
   simp only[List.size_toArray,List.length_cons,List.length_nil,List.range,List.range.loop,wpOpsIn,Oper.wpIn,Region.wanted,List.getElem?_toArray,List.getElem?_cons_zero,if_true]
   rw[Oper.semAt_eq _ _ _ (by simp)]
   exact⟨fun f hf=>by simp[Oper.about]at hf,h⟩
  ·cases hb
 ·cases hb
def gT:Code→Option Code
 |.rangeFunc _ _ _ b=>some b
 |.seq a b=>match gT a with|some c=>some c|none=>gT b
 |.cond _ a b=>match gT a with|some c=>some c|none=>gT b
 |.block _ c=>gT c
 |.loop c=>gT c
 |_=>none
end
section
variable {ct : CT} {fuel : Nat} {f : FuncId} {fn : Func} {args : List AV} {h : List aV} {p : gJ} {o : sF}
theorem cU (hct:bL Tryz.prog ct) (he:aJ tt ct [] fuel fn args h p=some o) (hf:Tryz.prog.funcs[f]? =some fn) (hnm:(fn.name== "runtime.NumGoroutine")=false)
  (hq:o.eqs=[]) (ho:o.obl=true):bF Tryz.prog f args h o.res o.heap:=cA hct hf hnm he ho (by rw[hq];simp) fun _ _=>aL.nil
abbrev KP (m:Nat) (fn:Func) (b:Nat×LC):Prop:=aP none Tryz.prog m (.block b.1 (.loop (aC b.1 (aB fn)))) b.2.pre fun e s=>e=b.2.ex∧s=b.2.post
theorem S4 {m:Nat} {fn:Func}: ∀ {l:List (Nat×LC)},(∀b∈l,tS b.1 (aB fn)=true∧KP m fn b)→ ∀c,fn.body=some c→aL none Tryz.prog m l c
 |[],_,c,_=>aL.nil
 |b::l,h,c,hc=>by
  obtain⟨h1,h2⟩:=h b List.mem_cons_self
  have e:aB fn=c:=by unfold aB;rw[hc]
  unfold KP at h2
  rw[e]at h1 h2
  exact aL.cons h1 h2 (S4 (fun x hx=>h x (List.mem_cons_of_mem _ hx)) c hc)
theorem bW (hct:bL Tryz.prog ct) {b:Nat×LC} (he:aJ tt ct [b] fuel fn args h p=some o) (hf:Tryz.prog.funcs[f]? =some fn) (hnm:(fn.name== "runtime.NumGoroutine")=false)
  (hl:tS b.1 (aB fn)=true) (g:KP h.length fn b) (hq: ∀q∈o.eqs,q) (ho:o.obl=true):bF Tryz.prog f args h o.res o.heap:=
 cA hct hf hnm he ho hq (S4 fun x hx=>by rw[List.mem_singleton]at hx;subst hx;exact⟨hl,g⟩)
end
end Go.Proofs.YtdnfojanjejdgaaGreat.Am
