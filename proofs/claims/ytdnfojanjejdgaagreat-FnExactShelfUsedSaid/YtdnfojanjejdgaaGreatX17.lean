/- DERIVED. Part 17 of the proof: C57, C58, C59, C60, C61, C62, C63, C64, Am33, C65, C66, P10, P11, C67, Am34, C68, C69, C70, C71, C72, C73, C74, L1, Am35, C83, C84, Am39, Am40, Am41, Am42. No statement of the program is proved here. -/
import Derived.Test.YtdnfojanjejdgaaGreatX16
import Derived.Test.YtdnfojanjejdgaaGreatRows
import Derived.WalkKit
import Derived.ProofKit
import Derived.OpenShut
import Derived.ShutString
import Derived.ChangeOld
import Derived.Below
set_option linter.unusedSimpArgs false
set_option linter.unusedVariables false
set_option linter.unusedSectionVars false
namespace Go.Proofs.YtdnfojanjejdgaaGreat.Am
section
theorem KJ {a b:List Int} {c:List Bool} {vs:Int} (ha:a.length=8) (hb:b.length=8) (hc:c.length=8) {i:Nat} (hi:i<8):
  (rsA a b c vs).getD i 0=(if b.getD i 0=vs then 0 else a.getD i 0)∧(rsB a b c vs).getD i 0=(if b.getD i 0=vs then 0 else b.getD i 0)∧(rsC a b c vs).getD i false=(if b.getD i 0=vs then false else c.getD i false):=by
 have gB: ∀(l:List Bool) (a b:Nat) (x:Bool),(l.set a x).getD b false=if a=b∧a<l.length then x else l.getD b false:=fun l a b x=>by
  rw[List.getD_eq_getElem?_getD,List.getElem?_set]
  by_cases h:a=b
  ·subst h
   by_cases h2:a<l.length
   ·simp[h2]
   ·simp[h2,List.getD_eq_getElem?_getD,List.getElem?_eq_none (Nat.le_of_not_lt h2)]
  ·simp[h,List.getD_eq_getElem?_getD]
 have key:=aY (step:=qD vs) (fun n s=>(s.1.length=8∧s.2.1.length=8∧s.2.2.length=8)∧ ∀i,i<8→s.1.getD i 0=(if i<n∧b.getD i 0=vs then 0 else a.getD i 0)∧s.2.1.getD i 0=(if i<n∧b.getD i 0=vs then 0 else b.getD i 0)∧s.2.2.getD i false=(if i<n∧b.getD i 0=vs then false else c.getD i false)) b.length (a,b,c)
  ⟨⟨ha,hb,hc⟩,fun i hi=>by rw[if_neg (by omega),if_neg (by omega),if_neg (by omega)];exact⟨rfl,rfl,rfl⟩⟩ fun n s hn h=>by
  obtain⟨⟨h1,h2,h3⟩,h4⟩:=h
  have hn2:s.2.1.getD n 0=b.getD n 0:=by rw[(h4 n (by omega)).2.1,if_neg (by omega)]
  unfold qD
  rw[hn2]
  cases hq:b.getD n 0==vs with
  |true=>
   have hq':b.getD n 0=vs:=by simpa using hq
   rw[cond_true]
   refine⟨by simp[h1,h2,h3],fun i hi=> ?_⟩
   obtain⟨g1,g2,g3⟩:=h4 i hi
   dsimp only
   rw[bD,bD,gB,g1,g2,g3]
   by_cases e:n=i
   ·subst e
    refine⟨?_, ?_, ?_⟩<;>rw[if_pos ⟨rfl,by omega⟩,if_pos ⟨Nat.lt_succ_self n,hq'⟩]
   ·have:(i<n∧b.getD i 0=vs)↔(i<n+1∧b.getD i 0=vs):=⟨fun h=>⟨by omega,h.2⟩,fun h=>⟨by omega,h.2⟩⟩
    simp only[this]
    refine⟨?_, ?_, ?_⟩<;>rw[if_neg (fun h=>e h.1)]
  |false=>
   have hq':b.getD n 0≠vs:=by simpa using hq
   rw[cond_false]
   refine⟨⟨h1,h2,h3⟩,fun i hi=> ?_⟩
   obtain⟨g1,g2,g3⟩:=h4 i hi
   rw[g1,g2,g3]
   have:(i<n∧b.getD i 0=vs)↔(i<n+1∧b.getD i 0=vs):=⟨fun h=>⟨by omega,h.2⟩,fun h=>⟨by
    by_cases e:i=n
    ·subst e;exact absurd h.2 hq'
    ·omega,h.2⟩⟩
   simp only[this]
   exact⟨trivial,trivial,trivial⟩
 obtain⟨g1,g2,g3⟩:=key.2 i hi
 have:(i<b.length∧b.getD i 0=vs)↔b.getD i 0=vs:=⟨fun h=>h.2,fun h=>⟨by omega,h⟩⟩
 simp only[this]at g1 g2 g3
 exact⟨g1,g2,g3⟩
theorem nX (d:List Int):vok d=aG d 4:=by
 unfold vok aG
 congr 1
theorem EU {v:List Int} {n:Nat} (hv:v.length=n) (h: ∀i,i<n→fok (v.getD i 0)=true):aA v=true:=by
 simp only[aA,List.all_eq_true]
 intro x hx
 obtain⟨i,hi⟩:=List.getElem?_of_mem hx
 have:=h i (by have:=(List.getElem?_eq_some_iff.1 hi).1;omega)
 rw[List.getD_eq_getElem?_getD,hi]at this
 exact this
theorem sL (k:Int) (d:List Int) {i:Nat} (hi:i<8):(lC k d).getD i 0=cO k d (i:Int):=by
 match i,hi with
 |0,_|1,_|2,_|3,_|4,_|5,_|6,_|7,_=>rfl
structure HH (k:Int) (a b:List Int) (c:List Bool) (kd:Int) (d:List Int) (vs:Int):Prop where
 s:Sok k a b c
 rd:rdS k a b c=true
 one:cH (qR b c) 8 0=true
 kd0:kd=0
 d0:d=[]
 vs0:vs=0
theorem fH {k:Int} {a b:List Int} {c:List Bool} {kd:Int} {d:List Int} {vs:Int}:bB k a b c false kd d vs=true↔HH k a b c kd d vs:=by
 simp only[bB,cond_false,oS,Bool.and_eq_true,rpS,beq_iff_eq]
 constructor
 ·rintro⟨h1,h2,h3,h4,h5⟩
  unfold srS at h1
  cases hs:bZ k a b c with
  |false=>rw[hs]at h1;cases h1
  |true=>
   rw[hs,cond_true]at h1
   have S:=g8.1 hs
   exact⟨S,h1,S.one.2 (by omega),h2,List.eq_nil_of_length_eq_zero (by omega),h4⟩
 ·rintro⟨S,h1,h2,h3,h4,h5⟩
  have hl:=S.one.1 h2
  refine⟨by unfold srS;rw[g8.2 S];exact h1,h3,by rw[h4];rfl,h5, ?_⟩
  unfold rdS at h1
  cases hv:rdV k a b c with
  |none=>rw[hv]at h1;cases h1
  |some x=>
   unfold rdV at hv
   have:=List.mem_of_find?_eq_some hv
   have:=List.length_pos_of_mem this
   omega
structure HI (k:Int) (a b:List Int) (c:List Bool) (kd:Int) (d:List Int) (vs:Int):Prop where
 hd:aG d 4=true
 hkd:bet kd 1 2=true
 hvs:bet vs 1 99=true
 ha:a.length=8
 hb:b.length=8
 hc:c.length=8
 s:Sok k (rsA a b c vs) (rsB a b c vs) (rsC a b c vs)
 one:cH (qR (rsB a b c vs) (rsC a b c vs)) 8 0=true
 lt:mxL (rsB a b c vs)<vs
 nt: ∀i,i<8→b.getD i 0=vs→c.getD i false=true∧a.getD i 0=cO kd d i
theorem oT {k:Int} {a b:List Int} {c:List Bool} {kd:Int} {d:List Int} {vs:Int}:bB k a b c true kd d vs=true↔HI k a b c kd d vs:=by
 simp only[bB,cond_true,tC,Bool.and_eq_true,rpS]
 have nt:aG d 4=true→(cH (jT a b c vs (iH kd d)) 8 0=true↔ ∀i,i<8→b.getD i 0=vs→c.getD i false=true∧a.getD i 0=cO kd d i):=fun hd=>by
  rw[r8 hd,cC]
  constructor
  ·intro h i hi hv
   have:=h i (by omega) (by omega)
   unfold jT at this
   rw[hv,beq_self_eq_true,cond_true,Bool.and_eq_true,sL _ _ hi]at this
   exact⟨this.1,by simpa using this.2⟩
  ·intro h i _ hi
   unfold jT
   cases hq:b.getD i 0==vs with
   |false=>rfl
   |true=>
    obtain⟨h1,h2⟩:=h i (by omega) (by simpa using hq)
    rw[cond_true,h1,h2,sL _ _ (by omega)];simp
 constructor
 ·rintro⟨h1,h2,h3,h4,h5,h6,h7,h8⟩
  obtain⟨ha,hb,hc⟩:=f5.1 h4
  have S:=g8.1 h5
  refine⟨h1,h2,h3,ha,hb,hc,S,S.one.2 ?_, ?_,(nt h1).1 h8⟩
  ·simp only[Bool.not_eq_true',decide_eq_false_iff_not]at h6;omega
  ·simp only[Bool.not_eq_true',decide_eq_false_iff_not]at h7
   rw[S.top]at h7;omega
 ·rintro⟨h1,h2,h3,ha,hb,hc,S,h6,h7,h8⟩
  have hl:=S.one.1 h6
  refine⟨h1,h2,h3,u6 ha hb hc,g8.2 S, ?_, ?_,(nt h1).2 h8⟩
  ·rw[Bool.not_eq_true'];exact decide_eq_false (by omega)
  ·rw[Bool.not_eq_true'];exact decide_eq_false (by rw[S.top];omega)
theorem HI.fok {k:Int} {a b:List Int} {c:List Bool} {kd:Int} {d:List Int} {vs:Int} (h:HI k a b c kd d vs):aA a=true:=by
 refine EU h.ha fun i hi=> ?_
 by_cases e:b.getD i 0=vs
 ·rw[(h.nt i hi e).2];exact k6 _ _ _
 ·have:=(KJ (vs:=vs) h.ha h.hb h.hc hi).1
  rw[if_neg e]at this
  rw[←this];exact aT h.s.hf i
def ksL (k:Int) (a b:List Int) (c:List Bool) (on:Bool) (kd:Int) (d:List Int) (vs:Int):Bool:=bet k 1 2&&(c6 a c&&(((b.length:Int)==8)&&(bZ k (elL a b c on vs).1 (elL a b c on vs).2.1 (elL a b c on vs).2.2&&(cH (qR (elL a b c on vs).2.1 (elL a b c on vs).2.2) 8 0&&
 (bif on then bet kd 1 2&&(vok d&&(bet vs (mxL (elL a b c on vs).2.1+1) 99&&cH (jT a b c vs (lC kd d)) 8 0))else l2B k a b c&&(kd==0&&((d.length:Int)==0&&(vs==0))))))))
theorem l8 {v:List Int} {c:List Bool}:c6 v c=true↔aA v=true∧v.length=8∧c.length=8:=by
 unfold c6
 rw[Bool.and_eq_true,Bool.and_eq_true,beq_iff_eq,beq_iff_eq]
 exact⟨fun h=>⟨h.1,by omega,by omega⟩,fun h=>⟨h.1,by omega,by omega⟩⟩
theorem RP (k:Int) (a b:List Int) (c:List Bool) (on:Bool) (kd:Int) (d:List Int) (vs:Int):bB k a b c on kd d vs=ksL k a b c on kd d vs:=by
 rw[Bool.eq_iff_iff]
 cases on with
 |false=>
  rw[fH]
  simp only[ksL,elL,cond_false,Bool.and_eq_true,rpS,beq_iff_eq]
  constructor
  ·rintro⟨S,h1,h2,h3,h4,h5⟩
   exact⟨S.hk,l8.2 ⟨S.hf,S.ha,S.hc⟩,by rw[S.hb];rfl,g8.2 S,h2,by rw[S.rd.2.2];exact h1,h3,by rw[h4];rfl,h5⟩
  ·rintro⟨h1,h2,h3,h4,h5,h6,h7,h8,h9⟩
   have S:=g8.1 h4
   exact⟨S,by rw[←S.rd.2.2];exact h6,h5,h7,List.eq_nil_of_length_eq_zero (by omega),h9⟩
 |true=>
  rw[oT]
  simp only[ksL,elL,cond_true,Bool.and_eq_true,rpS,beq_iff_eq]
  constructor
  ·intro K
   have hn:=(oT.2 K)
   simp only[bB,cond_true,tC,Bool.and_eq_true,rpS]at hn
   have h8:=hn.2.2.2.2.2.2.2
   rw[r8 K.hd]at h8
   have hv:=bN.1 K.hvs
   have hl:mxL (aJ a b c vs).2.1<vs:=K.lt
   exact⟨K.s.hk,l8.2 ⟨K.fok,K.ha,K.hc⟩,by rw[K.hb];rfl,g8.2 K.s,K.one,K.hkd,by rw[nX];exact K.hd,bN.2 ⟨by omega,hv.2⟩,h8⟩
  ·rintro⟨h1,h2,h3,h4,h5,h6,h7,h8,h9⟩
   obtain⟨v1,v2,v3⟩:=l8.1 h2
   have hb:b.length=8:=by omega
   rw[nX]at h7
   have hm:=mE (aJ a b c vs).2.1
   have hv:=bN.1 h8
   refine⟨h7,h6,bN.2 ⟨by omega,hv.2⟩,v2,hb,v3,g8.1 h4,h5,by show mxL (aJ a b c vs).2.1<vs;omega,fun i hi hvs=> ?_⟩
   have:=cC.1 h9 i (by omega) (by omega)
   unfold jT at this
   rw[hvs,beq_self_eq_true,cond_true,Bool.and_eq_true,sL _ _ hi]at this
   exact⟨this.1,by simpa using this.2⟩
theorem l19 (k:Int) (a b:List Int) (c:List Bool) (on:Bool) (kd:Int) (d:List Int) (vs:Int) (a' b':List Int) (c':List Bool) (ha:a'.length=8) (hb:b'.length=8) (hc:c'.length=8):
  aN none Tryz.prog 0 (.block 0 (.loop (a5 0 (a0 f19)))) (I19 k a b c on kd d vs a' b' c' 0) fun e t=>e=(bif cH (qR b' c') 8 0 then .normal else .ret)∧t=bif cH (qR b' c') 8 0 then X19 k a b c on kd d vs a' b' c' else Y19 k a b c on kd d vs a' b' c':=by
 refine aN.all (ro:=none) hT t59 bF 8 (qR b' c') (fun i=>I19 k a b c on kd d vs a' b' c' i) (X19 k a b c on kd d vs a' b' c') (Y19 k a b c on kd d vs a' b' c') .ret (.inr rfl) (a6 f19 0) (a8 f19 0) (fun _=>[]) (fun _ _=>aK.nil) (fun i hi h=> ?_) (fun i hi h=> ?_)
  ⟨_,_,⟨_,_,Z2 k a b c on kd d vs a' b' c' (8:Nat),by rfl,by simp⟩⟩
 ·unfold qR at h
  cases h1:c'.getD i false with
  |false=>
   have e:=Z1 k a b c on kd d vs a' b' c' i
   rw[aB (by omega) (by omega),Int.toNat_natCast]at e
   refine⟨_,_,⟨_,_,e, ?_,by simp⟩⟩
   simp only[h1,bS,rpS]
   omega
  |true=>
   rw[h1,cond_true,Bool.not_eq_true']at h
   have e:=Z0 k a b c on kd d vs a' b' c' i
   rw[aB (by omega) (by omega),Int.toNat_natCast]at e
   refine⟨_,_,⟨_,_,e, ?_,by simp⟩⟩
   simp only[h1,h,bS,rpS]
   omega
 ·unfold qR at h
  rw[if_neg (by intro h;cases h)]
  cases h1:c'.getD i false with
  |false=>rw[h1]at h;cases h
  |true=>
   rw[h1,cond_true,Bool.not_eq_false']at h
   have e:=YZ k a b c on kd d vs a' b' c' i
   rw[Int.toNat_natCast]at e
   refine⟨_,_,⟨_,_,e, ?_,by simp⟩⟩
   simp only[h1,h,bS,rpS]
   omega
theorem a6O (k:Int) (a b:List Int) (c:List Bool) (on:Bool) (kd:Int) (d:List Int) (vs:Int) (ev:List Int) (ha:a.length=8) (hb:b.length=8) (hc:c.length=8) (he:ev.length=8):
  aN none Tryz.prog 0 (.block 2 (.loop (a5 2 (a0 f19)))) (J19 k a b c on kd d vs 8 ev 0) fun e t=>e=(bif cH (jT a b c vs ev) 8 0 then .normal else .ret)∧t=bif cH (jT a b c vs ev) 8 0 then Z19 else W19:=by
 refine aN.all (ro:=none) hT t59 bF 8 (jT a b c vs ev) (fun i=>J19 k a b c on kd d vs 8 ev i) Z19 W19 .ret (.inr rfl) (a6 f19 2) (a8 f19 2) (fun _=>[]) (fun _ _=>aK.nil) (fun i hi h=> ?_) (fun i hi h=> ?_)
  ⟨_,_,⟨_,_,XI k a b c on kd d vs 8 ev (8:Nat),by rfl,by simp⟩⟩
 ·unfold jT at h
  cases h1:b.getD i 0==vs with
  |true=>
   rw[h1,cond_true,Bool.and_eq_true,Bool.not_eq_true']at h
   obtain⟨h2,h3⟩:=h
   have e:=XG k a b c on kd d vs 8 ev i
   rw[aB (by omega) (by omega),Int.toNat_natCast]at e
   refine⟨_,_,⟨_,_,e, ?_,by simp⟩⟩
   simp only[h1,h2,h3,bS,rpS]
   omega
  |false=>
   have e:=XH k a b c on kd d vs 8 ev i
   rw[aB (by omega) (by omega),Int.toNat_natCast]at e
   refine⟨_,_,⟨_,_,e, ?_,by simp⟩⟩
   simp only[h1,bS,rpS]
   omega
 ·unfold jT at h
  rw[if_neg (by intro h;cases h)]
  cases h1:b.getD i 0==vs with
  |false=>rw[h1]at h;cases h
  |true=>
   rw[h1,cond_true]at h
   cases h2:c.getD i false with
   |false=>
    have e:=XE k a b c on kd d vs 8 ev i
    rw[Int.toNat_natCast]at e
    refine⟨_,_,⟨_,_,e, ?_,by simp⟩⟩
    simp only[h1,h2,bS,rpS]
    omega
   |true=>
    rw[h2,Bool.true_and,Bool.not_eq_false']at h
    have e:=XF k a b c on kd d vs 8 ev i
    rw[Int.toNat_natCast]at e
    refine⟨_,_,⟨_,_,e, ?_,by simp⟩⟩
    simp only[h1,h2,h,bS,rpS]
    omega
end
section
def BO:aM:=fun args h=>
 match args,h with
 |[.agg [.int .i64 k,.view _ (.ints .i64 a) n1 1 _,.view _ (.ints .i64 b) n2 1 _,.view _ (.bools c) n3 1 _,.bool on,.int .i64 kd,.view _ (.ints .i64 d) n4 1 _,.int .i64 vs]],[]=>
  some (.c (.bool (bB k a b c on kd d vs)),[],[decide (a.length≤274877906944),decide (d.length≤274877906944)])
 |_,_=>none
theorem m19:aS Tryz.prog 56 BO:=by
 intro args h res h' o hnorm he ho
 unfold BO at he
 split at he
 case h_2=>cases he
 rename_i k nl1 a n1 cap1 nl2 b n2 cap2 nl3 c n3 cap3 on kd nl4 d n4 cap4 vs
 simp only[Option.some.injEq,Prod.mk.injEq]at he
 obtain⟨rfl,rfl,rfl⟩:=he
 simp only[List.mem_cons,List.not_mem_nil,or_false,forall_eq_or_imp,forall_eq,decide_eq_true_eq]at ho
 obtain⟨o1,o2⟩:=ho
 simp only[b8,AV.norm,bA,aF.norm,Con.size,List.cons.injEq,AV.c.injEq,AV.agg.injEq,aF.view.injEq,aL,true_and,and_true]at hnorm
 obtain⟨⟨rfl,rfl,rfl⟩,⟨rfl,rfl,rfl⟩,⟨rfl,rfl,rfl⟩,rfl,rfl,rfl⟩:=hnorm
 rw[RP]
 have st: ∀(x:Bool) (p:gC) (ob:Bool),(∀lcv,aE tt (a9 T59) lcv 100 f19 [.agg [.int .i64 k,.view none (.ints .i64 a) a.length 1 none,.view none (.ints .i64 b) b.length 1 none,.view none (.bools c) c.length 1 none,.bool on,.int .i64 kd,.view none (.ints .i64 d) d.length 1 none,.int .i64 vs]] [] p=some ⟨.c (.bool x),[],ob,[]⟩)→ob=true→bE Tryz.prog 56 [.agg [.int .i64 k,.view none (.ints .i64 a) a.length 1 none,.view none (.ints .i64 b) b.length 1 none,.view none (.bools c) c.length 1 none,.bool on,.int .i64 kd,.view none (.ints .i64 d) d.length 1 none,.int .i64 vs]] [] (.c (.bool x)) []:=
  fun x p ob h1 h2=>mo t59 (h1 []) h2
 unfold ksL
 cases h1:bet k 1 2 with
 |false=>exact st _ _ _ (a21 k a b c on kd d vs) (by simp only[h1,bS,rpS])
 |true=>
  cases h2:c6 a c with
  |false=>exact st _ _ _ (a22 k a b c on kd d vs) (by simp only[h1,h2,o1,bS,rpS])
  |true=>
   cases h3:((b.length:Int)==8)with
   |false=>exact st _ _ _ (a23 k a b c on kd d vs) (by simp only[h1,h2,h3,bne,o1,bS,rpS])
   |true=>
    obtain⟨v1,v2,v3⟩:=l8.1 h2
    have hb:b.length=8:=by have:=beq_iff_eq.1 h3;omega
    obtain⟨z1,z2,z3⟩:=R7 a b c on vs
    cases h4:bZ k (elL a b c on vs).1 (elL a b c on vs).2.1 (elL a b c on vs).2.2 with
    |false=>exact st _ _ _ (a24 k a b c on kd d vs) (by simp only[h1,h2,h3,h4,bne,v2,v3,hb,z1,z2,z3,bS,rpS];simp)
    |true=>
     have S:=g8.1 h4
     have g:=l19 k a b c on kd d vs _ _ _ S.ha S.hb S.hc
     cases h5:cH (qR (elL a b c on vs).2.1 (elL a b c on vs).2.2) 8 0 with
     |false=>
      rw[h5]at g
      exact mo t59 (VO k a b c on kd d vs) (by simp only[h1,h2,h3,h4,bne,v2,v3,hb,z1,z2,z3,bS,rpS];simp) (hlc:=(fun cc hcc=>aK.cons (c:=cc) (by cases hcc;kernel_rfl) (by cases hcc;exact g) aK.nil))
     |true=>
      rw[h5]at g
      have lo: ∀cc,a0 f19=cc→aK none Tryz.prog 0 [(0,⟨a6 f19 0,I19 k a b c on kd d vs (elL a b c on vs).1 (elL a b c on vs).2.1 (elL a b c on vs).2.2 0,.normal,X19 k a b c on kd d vs (elL a b c on vs).1 (elL a b c on vs).2.1 (elL a b c on vs).2.2⟩)] cc:=fun cc hcc=>by
       subst hcc;exact aK.cons (by kernel_rfl) g aK.nil
      have hm:=S.mx
      have n88:(((8:Nat):Int)==8)=true:=rfl
      have s1: ∀(x:Bool) (p:gC) (ob:Bool),aE tt (a9 T59) [(0,⟨a6 f19 0,I19 k a b c on kd d vs (elL a b c on vs).1 (elL a b c on vs).2.1 (elL a b c on vs).2.2 0,.normal,X19 k a b c on kd d vs (elL a b c on vs).1 (elL a b c on vs).2.1 (elL a b c on vs).2.2⟩)] 100 f19 [.agg [.int .i64 k,.view none (.ints .i64 a) a.length 1 none,.view none (.ints .i64 b) b.length 1 none,.view none (.bools c) c.length 1 none,.bool on,.int .i64 kd,.view none (.ints .i64 d) d.length 1 none,.int .i64 vs]] [] p=some ⟨.c (.bool x),[],ob,[I19 k a b c on kd d vs (elL a b c on vs).1 (elL a b c on vs).2.1 (elL a b c on vs).2.2 0=I19 k a b c on kd d vs (elL a b c on vs).1 (elL a b c on vs).2.1 (elL a b c on vs).2.2 0]⟩→ob=true→bE Tryz.prog 56 [.agg [.int .i64 k,.view none (.ints .i64 a) a.length 1 none,.view none (.ints .i64 b) b.length 1 none,.view none (.bools c) c.length 1 none,.bool on,.int .i64 kd,.view none (.ints .i64 d) d.length 1 none,.int .i64 vs]] [] (.c (.bool x)) []:=
       fun x p ob h1 h2=>mo t59 h1 h2 (hlc:=(fun cc hcc=>lo cc (by cases hcc;rfl)))
      cases ho:on with
      |false=>
       subst ho
       have hm2:mxL b≤99:=hm.2
       cases h6:l2B k a b c with
       |false=>exact s1 _ _ _ (VM k a b c false kd d vs) (by simp only[h1,h2,h3,h4,h6,v1,bne,v2,v3,hb,n88,z1,z2,z3,bS,rpS];omega)
       |true=>
        cases h7:kd==0 with
        |false=>exact s1 _ _ _ (VL k a b c false kd d vs) (by simp only[h1,h2,h3,h4,h6,h7,v1,bne,v2,v3,hb,n88,z1,z2,z3,bS,rpS];omega)
        |true=>
         cases h8:(d.length:Int)==0 with
         |false=>exact s1 _ _ _ (VK k a b c false kd d vs) (by simp only[h1,h2,h3,h4,h6,h7,h8,v1,bne,v2,v3,hb,n88,z1,z2,z3,bS,rpS];omega)
         |true=>
          have e:=VJ k a b c false kd d vs
          rw[h6,h7,h8]at e
          exact s1 _ _ _ e (by simp only[h1,h2,h3,h4,h6,h7,h8,v1,bne,v2,v3,hb,n88,z1,z2,z3,bS,rpS];omega)
      |true=>
       subst ho
       cases h6:bet kd 1 2 with
       |false=>exact s1 _ _ _ (VN k a b c true kd d vs) (by simp only[h1,h2,h3,h4,h6,v1,bne,v2,v3,hb,n88,z1,z2,z3,bS,rpS];omega)
       |true=>
        cases h7:vok d with
        |false=>exact s1 _ _ _ (P0 k a b c true kd d vs) (by simp only[h1,h2,h3,h4,h6,h7,v1,bne,v2,v3,hb,n88,z1,z2,z3,bS,rpS];omega)
        |true=>
         have w:IntKind.i64.wrap (mxL (elL a b c true vs).2.1+1)=mxL (elL a b c true vs).2.1+1:=aB (by omega) (by omega)
         cases h8:bet vs (mxL (elL a b c true vs).2.1+1) 99 with
         |false=>exact s1 _ _ _ (P1 k a b c true kd d vs) (by simp only[h1,h2,h3,h4,h6,h7,w,h8,v1,bne,v2,v3,hb,n88,z1,z2,z3,bS,rpS];omega)
         |true=>
          have hd:aG d 4=true:=by rw[←nX];exact h7
          have hdf:aA d=true:=by simp only[aG,Bool.and_eq_true,rpS]at hd;exact hd.1
          have hd4:d.length=4:=by simp only[aG,Bool.and_eq_true,rpS,beq_iff_eq]at hd;omega
          have g2:=a6O k a b c true kd d vs (cdL kd d) v2 hb v3 rfl
          rw[sC h6]at g2
          have lo2: ∀(ex:Ex) (po:St) (cc:Code),(aN none Tryz.prog 0 (.block 2 (.loop (a5 2 (a0 f19)))) (J19 k a b c true kd d vs 8 (lC kd d) 0) fun e t=>e=ex∧t=po)→a0 f19=cc→aK none Tryz.prog 0 [(0,⟨a6 f19 0,I19 k a b c true kd d vs (elL a b c true vs).1 (elL a b c true vs).2.1 (elL a b c true vs).2.2 0,.normal,X19 k a b c true kd d vs (elL a b c true vs).1 (elL a b c true vs).2.1 (elL a b c true vs).2.2⟩),(2,⟨a6 f19 2,J19 k a b c true kd d vs 8 (cdL kd d) 0,ex,po⟩)] cc:=fun ex po cc gg hcc=>by
           subst hcc;rw[sC h6];exact aK.cons (by kernel_rfl) g (aK.cons (by kernel_rfl) gg aK.nil)
          cases h9:cH (jT a b c vs (lC kd d)) 8 0 with
          |true=>
           rw[h9]at g2
           exact mo t59 (VI k a b c true kd d vs) (by simp only[h1,h2,h3,h4,h6,h7,w,h8,hdf,hd4,v1,bne,v2,v3,hb,n88,z1,z2,z3,bS,rpS];omega) (hlc:=(fun cc hcc=>lo2 _ _ cc g2 (by cases hcc;rfl)))
          |false=>
           rw[h9]at g2
           exact mo t59 (P2 k a b c true kd d vs) (by simp only[h1,h2,h3,h4,h6,h7,w,h8,hdf,hd4,v1,bne,v2,v3,hb,n88,z1,z2,z3,bS,rpS];omega) (hlc:=(fun cc hcc=>lo2 _ _ cc g2 (by cases hcc;rfl)))
noncomputable def T61:List aZ:=[⟨56,[],nm BO⟩]++T59
theorem e61:a7 Tryz.prog T61:=by
 refine a7.append ?_ e59
 intro e he
 simp only[List.mem_cons,List.not_mem_nil,or_false]at he
 subst he;exact m19.ok
theorem t61:bK Tryz.prog (a9 T61):=aO e61
end
section
theorem FC:aQ Tryz.prog 138 (dV tt (a9 T61) Tryz.f138 []):=cG hT t61 bF [] (by kernel_rfl) (by kernel_rfl)
theorem MU:aQ Tryz.prog 187 (dV tt (a9 T61) Tryz.f187 []):=cG hT t61 bF [] (by kernel_rfl) (by kernel_rfl)
noncomputable def T62:List aZ:=[⟨138,[],dV tt (a9 T61) Tryz.f138 []⟩,⟨187,[],dV tt (a9 T61) Tryz.f187 []⟩]++T61
theorem e62:a7 Tryz.prog T62:=by
 refine a7.append ?_ e61
 intro e he
 simp only[List.mem_cons,List.not_mem_nil,or_false]at he
 rcases he with rfl|rfl
 ·exact FC
 ·exact MU
theorem t62:bK Tryz.prog (a9 T62):=aO e62
theorem a2C (k:Int) (a b:List Int) (c:List Bool) (on:Bool) (kd:Int) (d:List Int) (vs:Int) (x:Int) (e:List Int):aE tt (a9 T62) ([]) 100 Tryz.f186 [.agg [.int .i64 k,.view none (.ints .i64 a) a.length 1 none,.view none (.ints .i64 b) b.length 1 none,.view none (.bools c) c.length 1 none,.bool on,.int .i64 kd,.view none (.ints .i64 d) d.length 1 none,.int .i64 vs],.c (.int .i64 x),.c (.view none (.ints .i64 e) e.length 1 none)] [] [(0,true)]=
  some ⟨.tup [.agg [.int .i64 0,.nils,.nils,.nils,.bool false,.int .i64 0,.nils,.int .i64 0],.c (.bool false)],[],(decide (a.length≤274877906944)&&(decide (d.length≤274877906944)&&(rp3 (!bB k a b c on kd d vs) ((!bB k a b c on kd d vs)&&true)))),[]⟩:=by kernel_rfl
theorem a2D (k:Int) (a b:List Int) (c:List Bool) (on:Bool) (kd:Int) (d:List Int) (vs:Int) (x:Int) (e:List Int):aE tt (a9 T62) ([]) 100 Tryz.f186 [.agg [.int .i64 k,.view none (.ints .i64 a) a.length 1 none,.view none (.ints .i64 b) b.length 1 none,.view none (.bools c) c.length 1 none,.bool on,.int .i64 kd,.view none (.ints .i64 d) d.length 1 none,.int .i64 vs],.c (.int .i64 x),.c (.view none (.ints .i64 e) e.length 1 none)] [] [(0,false),(0,true)]=
  some ⟨.tup [.agg [.int .i64 0,.nils,.nils,.nils,.bool false,.int .i64 0,.nils,.int .i64 0],.c (.bool false)],[],(decide (a.length≤274877906944)&&(decide (d.length≤274877906944)&&(rp3 (!!bB k a b c on kd d vs) (rp4 (bif !bB k a b c on kd d vs then true else !bet x 1 2) true)))),[]⟩:=by kernel_rfl
theorem a2E (k:Int) (a b:List Int) (c:List Bool) (on:Bool) (kd:Int) (d:List Int) (vs:Int) (x:Int) (e:List Int):aE tt (a9 T62) ([]) 100 Tryz.f186 [.agg [.int .i64 k,.view none (.ints .i64 a) a.length 1 none,.view none (.ints .i64 b) b.length 1 none,.view none (.bools c) c.length 1 none,.bool on,.int .i64 kd,.view none (.ints .i64 d) d.length 1 none,.int .i64 vs],.c (.int .i64 x),.c (.view none (.ints .i64 e) e.length 1 none)] [] [(0,false),(0,false),(0,true)]=
  some ⟨.tup [.agg [.int .i64 0,.nils,.nils,.nils,.bool false,.int .i64 0,.nils,.int .i64 0],.c (.bool false)],[],(decide (a.length≤274877906944)&&(decide (d.length≤274877906944)&&(rp3 (!!bB k a b c on kd d vs) (rp2 (!bif !bB k a b c on kd d vs then true else !bet x 1 2) (decide (e.length≤274877906944)&&((!bif !bB k a b c on kd d vs then true else !bet x 1 2)&&((bif bif !bB k a b c on kd d vs then true else !bet x 1 2 then true else !vok e)&&true))))))),[]⟩:=by kernel_rfl
theorem a2F (k:Int) (a b:List Int) (c:List Bool) (on:Bool) (kd:Int) (d:List Int) (vs:Int) (x:Int) (e:List Int):aE tt (a9 T62) ([]) 100 Tryz.f186 [.agg [.int .i64 k,.view none (.ints .i64 a) a.length 1 none,.view none (.ints .i64 b) b.length 1 none,.view none (.bools c) c.length 1 none,.bool on,.int .i64 kd,.view none (.ints .i64 d) d.length 1 none,.int .i64 vs],.c (.int .i64 x),.c (.view none (.ints .i64 e) e.length 1 none)] [] [(0,false),(0,false),(0,false),(0,true)]=
  some ⟨.tup [.agg [.int .i64 k,.sl 0 0 a.length 1 none,.sl 1 0 b.length 1 none,.sl 2 0 c.length 1 none,.bool on,.int .i64 kd,.sl 3 0 d.length 1 none,.int .i64 vs],.c (.bool false)],[.live (.ints .i64 a),.live (.ints .i64 b),.live (.bools c),.live (.ints .i64 d)],(decide (a.length≤274877906944)&&(decide (d.length≤274877906944)&&(rp3 (!!bB k a b c on kd d vs) (rp2 (!bif !bB k a b c on kd d vs then true else !bet x 1 2) (decide (e.length≤274877906944)&&((!bif !bB k a b c on kd d vs then true else !bet x 1 2)&&((!bif bif !bB k a b c on kd d vs then true else !bet x 1 2 then true else !vok e)&&(decide (a.length≤274877906944)&&(decide (b.length≤274877906944)&&(decide (c.length≤274877906944)&&(decide (d.length≤274877906944)&&(rp5 (on) true)))))))))))),[]⟩:=by kernel_rfl
theorem a2G (k:Int) (a b:List Int) (c:List Bool) (on:Bool) (kd:Int) (d:List Int) (vs:Int) (x:Int) (e:List Int):aE tt (a9 T62) ([]) 100 Tryz.f186 [.agg [.int .i64 k,.view none (.ints .i64 a) a.length 1 none,.view none (.ints .i64 b) b.length 1 none,.view none (.bools c) c.length 1 none,.bool on,.int .i64 kd,.view none (.ints .i64 d) d.length 1 none,.int .i64 vs],.c (.int .i64 x),.c (.view none (.ints .i64 e) e.length 1 none)] [] [(0,false),(0,false),(0,false),(0,false),(0,true)]=
  some ⟨.tup [.agg [.int .i64 k,.sl 0 0 a.length 1 none,.sl 1 0 b.length 1 none,.sl 2 0 c.length 1 none,.bool on,.int .i64 kd,.sl 3 0 d.length 1 none,.int .i64 vs],.c (.bool false)],[.live (.ints .i64 a),.live (.ints .i64 b),.live (.bools c),.live (.ints .i64 d)],(decide (a.length≤274877906944)&&(decide (d.length≤274877906944)&&(rp3 (!!bB k a b c on kd d vs) (rp2 (!bif !bB k a b c on kd d vs then true else !bet x 1 2) (decide (e.length≤274877906944)&&((!bif !bB k a b c on kd d vs then true else !bet x 1 2)&&((!bif bif !bB k a b c on kd d vs then true else !bet x 1 2 then true else !vok e)&&(decide (a.length≤274877906944)&&(decide (b.length≤274877906944)&&(decide (c.length≤274877906944)&&(decide (d.length≤274877906944)&&(rp3 (!on) (decide (b.length≤274877906944)&&((!on)&&((bif on then true else decide (mxL b≥99))&&true))))))))))))))),[]⟩:=by kernel_rfl
theorem a2H (k:Int) (a b:List Int) (c:List Bool) (on:Bool) (kd:Int) (d:List Int) (vs:Int) (x:Int) (e:List Int):aE tt (a9 T62) ([]) 100 Tryz.f186 [.agg [.int .i64 k,.view none (.ints .i64 a) a.length 1 none,.view none (.ints .i64 b) b.length 1 none,.view none (.bools c) c.length 1 none,.bool on,.int .i64 kd,.view none (.ints .i64 d) d.length 1 none,.int .i64 vs],.c (.int .i64 x),.c (.view none (.ints .i64 e) e.length 1 none)] [] [(0,false),(0,false),(0,false),(0,false),(0,false)]=
  some ⟨.tup [.agg [.int .i64 k,.sl 0 0 a.length 1 none,.sl 1 0 b.length 1 none,.sl 2 0 c.length 1 none,.bool true,.int .i64 x,.sl 3 0 (0+e.length) 1 none,.int .i64 (IntKind.i64.wrap (mxL b+1))],.c (.bool true)],[.live (.ints .i64 a),.live (.ints .i64 b),.live (.bools c),.live (.ints .i64 ([]++e))],(decide (a.length≤274877906944)&&(decide (d.length≤274877906944)&&(rp3 (!!bB k a b c on kd d vs) (rp2 (!bif !bB k a b c on kd d vs then true else !bet x 1 2) (decide (e.length≤274877906944)&&((!bif !bB k a b c on kd d vs then true else !bet x 1 2)&&((!bif bif !bB k a b c on kd d vs then true else !bet x 1 2 then true else !vok e)&&(decide (a.length≤274877906944)&&(decide (b.length≤274877906944)&&(decide (c.length≤274877906944)&&(decide (d.length≤274877906944)&&(rp3 (!on) (decide (b.length≤274877906944)&&((!on)&&((!bif on then true else decide (mxL b≥99))&&(decide (0+e.length≤274877906944)&&((decide (b.length≤274877906944))&&true))))))))))))))))),[]⟩:=by kernel_rfl
theorem a3O (k:Int) (a b:List Int) (c:List Bool) (on:Bool) (kd:Int) (d:List Int) (vs:Int):aE tt (a9 T62) ([]) 100 Tryz.f115 [.agg [.int .i64 k,.view none (.ints .i64 a) a.length 1 none,.view none (.ints .i64 b) b.length 1 none,.view none (.bools c) c.length 1 none,.bool on,.int .i64 kd,.view none (.ints .i64 d) d.length 1 none,.int .i64 vs]] [] [(0,true)]=
  some ⟨.c (.sl 0 0 (0+d.length) 1 none),[.live (.ints .i64 ([]++d))],((on)&&((decide (0+d.length≤274877906944))&&true)),[]⟩:=by kernel_rfl
theorem a3P (k:Int) (a b:List Int) (c:List Bool) (on:Bool) (kd:Int) (d:List Int) (vs:Int):aE tt (a9 T62) ([]) 100 Tryz.f115 [.agg [.int .i64 k,.view none (.ints .i64 a) a.length 1 none,.view none (.ints .i64 b) b.length 1 none,.view none (.bools c) c.length 1 none,.bool on,.int .i64 kd,.view none (.ints .i64 d) d.length 1 none,.int .i64 vs]] [] [(0,false)]=
  some ⟨.c (.sl 0 0 (l2D k a b c).length 1 none),[.live (.ints .i64 (l2D k a b c))],((!on)&&(bet k 1 2&&(decide (a.length=8)&&(aA a&&(decide (b.length=8)&&(decide (c.length=8)&&((decide (mxL b≤1000))&&true))))))),[]⟩:=by kernel_rfl
theorem a3S (k:Int) (a b:List Int) (c:List Bool) (on:Bool) (kd:Int) (d:List Int) (vs:Int) (x:Int):aE tt (a9 T62) ([]) 100 Tryz.f127 [.agg [.int .i64 k,.view none (.ints .i64 a) a.length 1 none,.view none (.ints .i64 b) b.length 1 none,.view none (.bools c) c.length 1 none,.bool on,.int .i64 kd,.view none (.ints .i64 d) d.length 1 none,.int .i64 vs],.c (.int .i64 x)] [] [(0,true)]=
  some ⟨.agg [.int .i64 0,.nils,.nils,.nils,.bool false,.int .i64 0,.nils,.int .i64 0],[],(decide (a.length≤274877906944)&&(decide (d.length≤274877906944)&&(rp3 (!bB k a b c on kd d vs) ((!bB k a b c on kd d vs)&&true)))),[]⟩:=by kernel_rfl
theorem a3T (k:Int) (a b:List Int) (c:List Bool) (on:Bool) (kd:Int) (d:List Int) (vs:Int) (x:Int):aE tt (a9 T62) ([]) 100 Tryz.f127 [.agg [.int .i64 k,.view none (.ints .i64 a) a.length 1 none,.view none (.ints .i64 b) b.length 1 none,.view none (.bools c) c.length 1 none,.bool on,.int .i64 kd,.view none (.ints .i64 d) d.length 1 none,.int .i64 vs],.c (.int .i64 x)] [] [(0,false),(0,true)]=
  some ⟨.agg [.int .i64 0,.nils,.nils,.nils,.bool false,.int .i64 0,.nils,.int .i64 0],[],(decide (a.length≤274877906944)&&(decide (d.length≤274877906944)&&(rp3 (!!bB k a b c on kd d vs) ((bif !bB k a b c on kd d vs then true else !bet x 0 7)&&true)))),[]⟩:=by kernel_rfl
theorem a3U (k:Int) (a b:List Int) (c:List Bool) (on:Bool) (kd:Int) (d:List Int) (vs:Int) (x:Int):aE tt (a9 T62) ([]) 100 Tryz.f127 [.agg [.int .i64 k,.view none (.ints .i64 a) a.length 1 none,.view none (.ints .i64 b) b.length 1 none,.view none (.bools c) c.length 1 none,.bool on,.int .i64 kd,.view none (.ints .i64 d) d.length 1 none,.int .i64 vs],.c (.int .i64 x)] [] [(0,false),(0,false),(0,true),(0,true)]=
  some ⟨.agg [.int .i64 k,.sl 0 0 a.length 1 none,.sl 1 0 b.length 1 none,.sl 2 0 c.length 1 none,.bool on,.int .i64 kd,.sl 3 0 d.length 1 none,.int .i64 vs],[.live (.ints .i64 a),.live (.ints .i64 b),.live (.bools c),.live (.ints .i64 d)],(decide (a.length≤274877906944)&&(decide (d.length≤274877906944)&&(rp3 (!!bB k a b c on kd d vs) ((!bif !bB k a b c on kd d vs then true else !bet x 0 7)&&(decide (a.length≤274877906944)&&(decide (b.length≤274877906944)&&(decide (c.length≤274877906944)&&(decide (d.length≤274877906944)&&((decide (a.length≤274877906944)&&(decide (b.length≤274877906944)&&(decide (c.length≤274877906944)&&(decide (0≤x)&&(decide (x<(↑a.length:Int))&&(decide (x.toNat<a.length)&&(decide (0≤x)&&(decide (x<(↑b.length:Int))&&(decide (x.toNat<b.length)&&(decide (0≤x)&&(decide (x<(↑c.length:Int))&&(decide (x.toNat<c.length)&&true))))))))))))&&(decide (a.length=(a.set x.toNat 0).length)&&(decide (b.length=(b.set x.toNat 0).length)&&(decide (c.length=(c.set x.toNat false).length)&&(bet k 1 2&&(decide ((a.set x.toNat 0).length=8)&&(aA (a.set x.toNat 0)&&(decide ((b.set x.toNat 0).length=8)&&(decide ((c.set x.toNat false).length=8)&&(decide (mxL (b.set x.toNat 0)≤1000)&&(rp2 (!on) ((bif !on then !l2B k (a.set x.toNat 0) (b.set x.toNat 0) (c.set x.toNat false)else false)&&(decide (a.length≤274877906944)&&(decide (b.length≤274877906944)&&(decide (c.length≤274877906944)&&((decide (d.length≤274877906944))&&true)))))))))))))))))))))))),[]⟩:=by kernel_rfl
theorem a3V (k:Int) (a b:List Int) (c:List Bool) (on:Bool) (kd:Int) (d:List Int) (vs:Int) (x:Int):aE tt (a9 T62) ([]) 100 Tryz.f127 [.agg [.int .i64 k,.view none (.ints .i64 a) a.length 1 none,.view none (.ints .i64 b) b.length 1 none,.view none (.bools c) c.length 1 none,.bool on,.int .i64 kd,.view none (.ints .i64 d) d.length 1 none,.int .i64 vs],.c (.int .i64 x)] [] [(0,false),(0,false),(0,true),(0,false)]=
  some ⟨.agg [.int .i64 k,.sl 0 0 a.length 1 none,.sl 1 0 b.length 1 none,.sl 2 0 c.length 1 none,.bool on,.int .i64 kd,.sl 3 0 d.length 1 none,.int .i64 vs],[.live (.ints .i64 (a.set x.toNat 0)),.live (.ints .i64 (b.set x.toNat 0)),.live (.bools (c.set x.toNat false)),.live (.ints .i64 d)],(decide (a.length≤274877906944)&&(decide (d.length≤274877906944)&&(rp3 (!!bB k a b c on kd d vs) ((!bif !bB k a b c on kd d vs then true else !bet x 0 7)&&(decide (a.length≤274877906944)&&(decide (b.length≤274877906944)&&(decide (c.length≤274877906944)&&(decide (d.length≤274877906944)&&((decide (a.length≤274877906944)&&(decide (b.length≤274877906944)&&(decide (c.length≤274877906944)&&(decide (0≤x)&&(decide (x<(↑a.length:Int))&&(decide (x.toNat<a.length)&&(decide (0≤x)&&(decide (x<(↑b.length:Int))&&(decide (x.toNat<b.length)&&(decide (0≤x)&&(decide (x<(↑c.length:Int))&&(decide (x.toNat<c.length)&&true))))))))))))&&(decide (a.length=(a.set x.toNat 0).length)&&(decide (b.length=(b.set x.toNat 0).length)&&(decide (c.length=(c.set x.toNat false).length)&&(bet k 1 2&&(decide ((a.set x.toNat 0).length=8)&&(aA (a.set x.toNat 0)&&(decide ((b.set x.toNat 0).length=8)&&(decide ((c.set x.toNat false).length=8)&&(decide (mxL (b.set x.toNat 0)≤1000)&&(rp2 (!on) ((!bif !on then !l2B k (a.set x.toNat 0) (b.set x.toNat 0) (c.set x.toNat false)else false)&&true)))))))))))))))))))),[]⟩:=by kernel_rfl
theorem a3W (k:Int) (a b:List Int) (c:List Bool) (on:Bool) (kd:Int) (d:List Int) (vs:Int) (x:Int):aE tt (a9 T62) ([]) 100 Tryz.f127 [.agg [.int .i64 k,.view none (.ints .i64 a) a.length 1 none,.view none (.ints .i64 b) b.length 1 none,.view none (.bools c) c.length 1 none,.bool on,.int .i64 kd,.view none (.ints .i64 d) d.length 1 none,.int .i64 vs],.c (.int .i64 x)] [] [(0,false),(0,false),(0,false)]=
  some ⟨.agg [.int .i64 k,.sl 0 0 a.length 1 none,.sl 1 0 b.length 1 none,.sl 2 0 c.length 1 none,.bool on,.int .i64 kd,.sl 3 0 d.length 1 none,.int .i64 vs],[.live (.ints .i64 (a.set x.toNat 0)),.live (.ints .i64 (b.set x.toNat 0)),.live (.bools (c.set x.toNat false)),.live (.ints .i64 d)],(decide (a.length≤274877906944)&&(decide (d.length≤274877906944)&&(rp3 (!!bB k a b c on kd d vs) ((!bif !bB k a b c on kd d vs then true else !bet x 0 7)&&(decide (a.length≤274877906944)&&(decide (b.length≤274877906944)&&(decide (c.length≤274877906944)&&(decide (d.length≤274877906944)&&((decide (a.length≤274877906944)&&(decide (b.length≤274877906944)&&(decide (c.length≤274877906944)&&(decide (0≤x)&&(decide (x<(↑a.length:Int))&&(decide (x.toNat<a.length)&&(decide (0≤x)&&(decide (x<(↑b.length:Int))&&(decide (x.toNat<b.length)&&(decide (0≤x)&&(decide (x<(↑c.length:Int))&&(decide (x.toNat<c.length)&&true))))))))))))&&(decide (a.length=(a.set x.toNat 0).length)&&(decide (b.length=(b.set x.toNat 0).length)&&(decide (c.length=(c.set x.toNat false).length)&&(bet k 1 2&&(decide ((a.set x.toNat 0).length=8)&&(aA (a.set x.toNat 0)&&(decide ((b.set x.toNat 0).length=8)&&(decide ((c.set x.toNat false).length=8)&&(decide (mxL (b.set x.toNat 0)≤1000)&&(rp3 (!!on) true))))))))))))))))))),[]⟩:=by kernel_rfl
theorem a2Y (k:Int) (a b:List Int) (c:List Bool) (on:Bool) (kd:Int) (d:List Int) (vs:Int) (x:Int):aE tt (a9 T62) ([]) 100 Tryz.f79 [.agg [.int .i64 k,.view none (.ints .i64 a) a.length 1 none,.view none (.ints .i64 b) b.length 1 none,.view none (.bools c) c.length 1 none,.bool on,.int .i64 kd,.view none (.ints .i64 d) d.length 1 none,.int .i64 vs],.c (.int .i64 x)] [] [(0,true)]=
  some ⟨.agg [.int .i64 0,.nils,.nils,.nils,.bool false,.int .i64 0,.nils,.int .i64 0],[],(decide (d.length≤274877906944)&&(rp3 (!bB k a b c on kd d vs) ((!bB k a b c on kd d vs)&&true))),[]⟩:=by kernel_rfl
theorem a2Z (k:Int) (a b:List Int) (c:List Bool) (on:Bool) (kd:Int) (d:List Int) (vs:Int) (x:Int):aE tt (a9 T62) ([]) 100 Tryz.f79 [.agg [.int .i64 k,.view none (.ints .i64 a) a.length 1 none,.view none (.ints .i64 b) b.length 1 none,.view none (.bools c) c.length 1 none,.bool on,.int .i64 kd,.view none (.ints .i64 d) d.length 1 none,.int .i64 vs],.c (.int .i64 x)] [] [(0,false),(0,true)]=
  some ⟨.agg [.int .i64 0,.nils,.nils,.nils,.bool false,.int .i64 0,.nils,.int .i64 0],[],(decide (d.length≤274877906944)&&(rp3 (!!bB k a b c on kd d vs) ((bif !bB k a b c on kd d vs then true else !bet x 0 7)&&true))),[]⟩:=by kernel_rfl
theorem a30 (k:Int) (a b:List Int) (c:List Bool) (on:Bool) (kd:Int) (d:List Int) (vs:Int) (x:Int):aE tt (a9 T62) ([]) 100 Tryz.f79 [.agg [.int .i64 k,.view none (.ints .i64 a) a.length 1 none,.view none (.ints .i64 b) b.length 1 none,.view none (.bools c) c.length 1 none,.bool on,.int .i64 kd,.view none (.ints .i64 d) d.length 1 none,.int .i64 vs],.c (.int .i64 x)] [] [(0,false),(0,false),(0,true),(0,true)]=
  some ⟨.agg [.int .i64 k,.sl 0 0 a.length 1 none,.sl 1 0 b.length 1 none,.sl 2 0 c.length 1 none,.bool on,.int .i64 kd,.sl 3 0 d.length 1 none,.int .i64 vs],[.live (.ints .i64 a),.live (.ints .i64 b),.live (.bools c),.live (.ints .i64 d)],(decide (d.length≤274877906944)&&(rp3 (!!bB k a b c on kd d vs) ((!bif !bB k a b c on kd d vs then true else !bet x 0 7)&&(decide (a.length≤274877906944)&&(decide (b.length≤274877906944)&&(decide (c.length≤274877906944)&&(decide (d.length≤274877906944)&&((decide (0≤x)&&(decide (x<(↑a.length:Int))&&(decide (x.toNat<a.length)&&(decide (0≤x)&&(decide (x<(↑b.length:Int))&&(decide (x.toNat<b.length)&&(decide (0≤x)&&(decide (x<(↑c.length:Int))&&(decide (x.toNat<c.length)&&true)))))))))&&(decide (a.length=(a.set x.toNat 0).length)&&(decide (b.length=(b.set x.toNat 0).length)&&(decide (c.length=(c.set x.toNat false).length)&&(decide ((c.set x.toNat false).length=8)&&(decide ((b.set x.toNat 0).length=8)&&(decide ((a.set x.toNat 0).length=8)&&(bet k 1 2&&(aA (a.set x.toNat 0)&&(rp3 (!rdS k (a.set x.toNat 0) (b.set x.toNat 0) (c.set x.toNat false)) ((bif !rdS k (a.set x.toNat 0) (b.set x.toNat 0) (c.set x.toNat false)then !on else false)&&(decide (a.length≤274877906944)&&(decide (b.length≤274877906944)&&(decide (c.length≤274877906944)&&((decide (d.length≤274877906944))&&true)))))))))))))))))))))),[]⟩:=by kernel_rfl
theorem a31 (k:Int) (a b:List Int) (c:List Bool) (on:Bool) (kd:Int) (d:List Int) (vs:Int) (x:Int):aE tt (a9 T62) ([]) 100 Tryz.f79 [.agg [.int .i64 k,.view none (.ints .i64 a) a.length 1 none,.view none (.ints .i64 b) b.length 1 none,.view none (.bools c) c.length 1 none,.bool on,.int .i64 kd,.view none (.ints .i64 d) d.length 1 none,.int .i64 vs],.c (.int .i64 x)] [] [(0,false),(0,false),(0,true),(0,false)]=
  some ⟨.agg [.int .i64 k,.sl 0 0 a.length 1 none,.sl 1 0 b.length 1 none,.sl 2 0 c.length 1 none,.bool on,.int .i64 kd,.sl 3 0 d.length 1 none,.int .i64 vs],[.live (.ints .i64 (a.set x.toNat 0)),.live (.ints .i64 (b.set x.toNat 0)),.live (.bools (c.set x.toNat false)),.live (.ints .i64 d)],(decide (d.length≤274877906944)&&(rp3 (!!bB k a b c on kd d vs) ((!bif !bB k a b c on kd d vs then true else !bet x 0 7)&&(decide (a.length≤274877906944)&&(decide (b.length≤274877906944)&&(decide (c.length≤274877906944)&&(decide (d.length≤274877906944)&&((decide (0≤x)&&(decide (x<(↑a.length:Int))&&(decide (x.toNat<a.length)&&(decide (0≤x)&&(decide (x<(↑b.length:Int))&&(decide (x.toNat<b.length)&&(decide (0≤x)&&(decide (x<(↑c.length:Int))&&(decide (x.toNat<c.length)&&true)))))))))&&(decide (a.length=(a.set x.toNat 0).length)&&(decide (b.length=(b.set x.toNat 0).length)&&(decide (c.length=(c.set x.toNat false).length)&&(decide ((c.set x.toNat false).length=8)&&(decide ((b.set x.toNat 0).length=8)&&(decide ((a.set x.toNat 0).length=8)&&(bet k 1 2&&(aA (a.set x.toNat 0)&&(rp3 (!rdS k (a.set x.toNat 0) (b.set x.toNat 0) (c.set x.toNat false)) ((!bif !rdS k (a.set x.toNat 0) (b.set x.toNat 0) (c.set x.toNat false)then !on else false)&&true)))))))))))))))))),[]⟩:=by kernel_rfl
theorem a32 (k:Int) (a b:List Int) (c:List Bool) (on:Bool) (kd:Int) (d:List Int) (vs:Int) (x:Int):aE tt (a9 T62) ([]) 100 Tryz.f79 [.agg [.int .i64 k,.view none (.ints .i64 a) a.length 1 none,.view none (.ints .i64 b) b.length 1 none,.view none (.bools c) c.length 1 none,.bool on,.int .i64 kd,.view none (.ints .i64 d) d.length 1 none,.int .i64 vs],.c (.int .i64 x)] [] [(0,false),(0,false),(0,false)]=
  some ⟨.agg [.int .i64 k,.sl 0 0 a.length 1 none,.sl 1 0 b.length 1 none,.sl 2 0 c.length 1 none,.bool on,.int .i64 kd,.sl 3 0 d.length 1 none,.int .i64 vs],[.live (.ints .i64 (a.set x.toNat 0)),.live (.ints .i64 (b.set x.toNat 0)),.live (.bools (c.set x.toNat false)),.live (.ints .i64 d)],(decide (d.length≤274877906944)&&(rp3 (!!bB k a b c on kd d vs) ((!bif !bB k a b c on kd d vs then true else !bet x 0 7)&&(decide (a.length≤274877906944)&&(decide (b.length≤274877906944)&&(decide (c.length≤274877906944)&&(decide (d.length≤274877906944)&&((decide (0≤x)&&(decide (x<(↑a.length:Int))&&(decide (x.toNat<a.length)&&(decide (0≤x)&&(decide (x<(↑b.length:Int))&&(decide (x.toNat<b.length)&&(decide (0≤x)&&(decide (x<(↑c.length:Int))&&(decide (x.toNat<c.length)&&true)))))))))&&(decide (a.length=(a.set x.toNat 0).length)&&(decide (b.length=(b.set x.toNat 0).length)&&(decide (c.length=(c.set x.toNat false).length)&&(decide ((c.set x.toNat false).length=8)&&(decide ((b.set x.toNat 0).length=8)&&(decide ((a.set x.toNat 0).length=8)&&(bet k 1 2&&(aA (a.set x.toNat 0)&&(rp3 (!!rdS k (a.set x.toNat 0) (b.set x.toNat 0) (c.set x.toNat false)) ((!!rdS k (a.set x.toNat 0) (b.set x.toNat 0) (c.set x.toNat false))&&true)))))))))))))))))),[]⟩:=by kernel_rfl
theorem a1Y (k:Int) (a b:List Int) (c:List Bool) (on:Bool) (kd:Int) (d:List Int) (vs:Int):aE tt (a9 T62) ([]) 100 Tryz.f135 [.agg [.int .i64 k,.view none (.ints .i64 a) a.length 1 none,.view none (.ints .i64 b) b.length 1 none,.view none (.bools c) c.length 1 none,.bool on,.int .i64 kd,.view none (.ints .i64 d) d.length 1 none,.int .i64 vs]] [] [(0,true)]=
  some ⟨.agg [.int .i64 0,.nils,.nils,.nils,.bool false,.int .i64 0,.nils,.int .i64 0],[],(decide (a.length≤274877906944)&&(decide (d.length≤274877906944)&&((!bB k a b c on kd d vs)&&true))),[]⟩:=by kernel_rfl
theorem a1Z (k:Int) (a b:List Int) (c:List Bool) (on:Bool) (kd:Int) (d:List Int) (vs:Int):aE tt (a9 T62) ([]) 100 Tryz.f135 [.agg [.int .i64 k,.view none (.ints .i64 a) a.length 1 none,.view none (.ints .i64 b) b.length 1 none,.view none (.bools c) c.length 1 none,.bool on,.int .i64 kd,.view none (.ints .i64 d) d.length 1 none,.int .i64 vs]] [] [(0,false),(0,true)]=
  some ⟨.agg [.int .i64 k,.sl 0 0 a.length 1 none,.sl 1 0 b.length 1 none,.sl 2 0 c.length 1 none,.bool on,.int .i64 kd,.sl 3 0 d.length 1 none,.int .i64 vs],[.live (.ints .i64 a),.live (.ints .i64 b),.live (.bools c),.live (.ints .i64 d)],(decide (a.length≤274877906944)&&(decide (d.length≤274877906944)&&(!!bB k a b c on kd d vs&&((!on)&&(decide (a.length≤274877906944)&&(decide (b.length≤274877906944)&&(decide (c.length≤274877906944)&&((decide (d.length≤274877906944))&&true)))))))),[]⟩:=by kernel_rfl
theorem a20 (k:Int) (a b:List Int) (c:List Bool) (on:Bool) (kd:Int) (d:List Int) (vs:Int):aE tt (a9 T62) ([]) 100 Tryz.f135 [.agg [.int .i64 k,.view none (.ints .i64 a) a.length 1 none,.view none (.ints .i64 b) b.length 1 none,.view none (.bools c) c.length 1 none,.bool on,.int .i64 kd,.view none (.ints .i64 d) d.length 1 none,.int .i64 vs]] [] [(0,false),(0,false)]=
  some ⟨.agg [.int .i64 kd,.sl 0 0 ((((((((a.set 0 (aP (aH kd 0) d)).set 1 (aP (aH kd 1) d)).set 2 (aP (aH kd 2) d)).set 3 (aP (aH kd 3) d)).set 4 (aP (aH kd 4) d)).set 5 (aP (aH kd 5) d)).set 6 (aP (aH kd 6) d)).set 7 (aP (aH kd 7) d)).length 1 none,.sl 1 0 ((((((((b.set 0 vs).set 1 vs).set 2 vs).set 3 vs).set 4 vs).set 5 vs).set 6 vs).set 7 vs).length 1 none,.sl 2 0 ((((((((c.set 0 true).set 1 true).set 2 true).set 3 true).set 4 true).set 5 true).set 6 true).set 7 true).length 1 none,.bool false,.int .i64 0,.sl 3 0 0 1 none,.int .i64 0],[.live (.ints .i64 ((((((((a.set 0 (aP (aH kd 0) d)).set 1 (aP (aH kd 1) d)).set 2 (aP (aH kd 2) d)).set 3 (aP (aH kd 3) d)).set 4 (aP (aH kd 4) d)).set 5 (aP (aH kd 5) d)).set 6 (aP (aH kd 6) d)).set 7 (aP (aH kd 7) d))),.live (.ints .i64 ((((((((b.set 0 vs).set 1 vs).set 2 vs).set 3 vs).set 4 vs).set 5 vs).set 6 vs).set 7 vs)),.live (.bools ((((((((c.set 0 true).set 1 true).set 2 true).set 3 true).set 4 true).set 5 true).set 6 true).set 7 true)),.live (.ints .i64 [])],(decide (a.length≤274877906944)&&(decide (d.length≤274877906944)&&(!!bB k a b c on kd d vs&&((!!on)&&((decide (a.length≤274877906944)&&(decide (b.length≤274877906944)&&(decide (c.length≤274877906944)&&(decide (d.length≤274877906944)&&(bet kd 1 2&&(decide (d.length=4)&&(aA d&&(decide (0<(↑a.length:Int))&&(decide (0<a.length)&&(decide (0<(↑b.length:Int))&&(decide (0<b.length)&&(decide (0<(↑c.length:Int))&&(decide (0<c.length)&&true)))))))))))))&&(decide (a.length=(a.set 0 (aP (aH kd 0) d)).length)&&(decide (b.length=(b.set 0 vs).length)&&(decide (c.length=(c.set 0 true).length)&&(decide (d.length=d.length)&&((decide ((a.set 0 (aP (aH kd 0) d)).length≤274877906944)&&(decide ((b.set 0 vs).length≤274877906944)&&(decide ((c.set 0 true).length≤274877906944)&&(decide (d.length≤274877906944)&&(bet kd 1 2&&(decide (d.length=4)&&(aA d&&(decide (1<(↑(a.set 0 (aP (aH kd 0) d)).length:Int))&&(decide (1<(a.set 0 (aP (aH kd 0) d)).length)&&(decide (1<(↑(b.set 0 vs).length:Int))&&(decide (1<(b.set 0 vs).length)&&(decide (1<(↑(c.set 0 true).length:Int))&&(decide (1<(c.set 0 true).length)&&true)))))))))))))&&(decide ((a.set 0 (aP (aH kd 0) d)).length=((a.set 0 (aP (aH kd 0) d)).set 1 (aP (aH kd 1) d)).length)&&(decide ((b.set 0 vs).length=((b.set 0 vs).set 1 vs).length)&&(decide ((c.set 0 true).length=((c.set 0 true).set 1 true).length)&&(decide (d.length=d.length)&&((decide (((a.set 0 (aP (aH kd 0) d)).set 1 (aP (aH kd 1) d)).length≤274877906944)&&(decide (((b.set 0 vs).set 1 vs).length≤274877906944)&&(decide (((c.set 0 true).set 1 true).length≤274877906944)&&(decide (d.length≤274877906944)&&(bet kd 1 2&&(decide (d.length=4)&&(aA d&&(decide (2<(↑((a.set 0 (aP (aH kd 0) d)).set 1 (aP (aH kd 1) d)).length:Int))&&(decide (2<((a.set 0 (aP (aH kd 0) d)).set 1 (aP (aH kd 1) d)).length)&&(decide (2<(↑((b.set 0 vs).set 1 vs).length:Int))&&(decide (2<((b.set 0 vs).set 1 vs).length)&&(decide (2<(↑((c.set 0 true).set 1 true).length:Int))&&(decide (2<((c.set 0 true).set 1 true).length)&&true)))))))))))))&&(decide (((a.set 0 (aP (aH kd 0) d)).set 1 (aP (aH kd 1) d)).length=(((a.set 0 (aP (aH kd 0) d)).set 1 (aP (aH kd 1) d)).set 2 (aP (aH kd 2) d)).length)&&(decide (((b.set 0 vs).set 1 vs).length=(((b.set 0 vs).set 1 vs).set 2 vs).length)&&(decide (((c.set 0 true).set 1 true).length=(((c.set 0 true).set 1 true).set 2 true).length)&&(decide (d.length=d.length)&&((decide ((((a.set 0 (aP (aH kd 0) d)).set 1 (aP (aH kd 1) d)).set 2 (aP (aH kd 2) d)).length≤274877906944)&&(decide ((((b.set 0 vs).set 1 vs).set 2 vs).length≤274877906944)&&(decide ((((c.set 0 true).set 1 true).set 2 true).length≤274877906944)&&(decide (d.length≤274877906944)&&(bet kd 1 2&&(decide (d.length=4)&&(aA d&&(decide (3<(↑(((a.set 0 (aP (aH kd 0) d)).set 1 (aP (aH kd 1) d)).set 2 (aP (aH kd 2) d)).length:Int))&&(decide (3<(((a.set 0 (aP (aH kd 0) d)).set 1 (aP (aH kd 1) d)).set 2 (aP (aH kd 2) d)).length)&&(decide (3<(↑(((b.set 0 vs).set 1 vs).set 2 vs).length:Int))&&(decide (3<(((b.set 0 vs).set 1 vs).set 2 vs).length)&&(decide (3<(↑(((c.set 0 true).set 1 true).set 2 true).length:Int))&&(decide (3<(((c.set 0 true).set 1 true).set 2 true).length)&&true)))))))))))))&&(decide ((((a.set 0 (aP (aH kd 0) d)).set 1 (aP (aH kd 1) d)).set 2 (aP (aH kd 2) d)).length=((((a.set 0 (aP (aH kd 0) d)).set 1 (aP (aH kd 1) d)).set 2 (aP (aH kd 2) d)).set 3 (aP (aH kd 3) d)).length)&&(decide ((((b.set 0 vs).set 1 vs).set 2 vs).length=((((b.set 0 vs).set 1 vs).set 2 vs).set 3 vs).length)&&(decide ((((c.set 0 true).set 1 true).set 2 true).length=((((c.set 0 true).set 1 true).set 2 true).set 3 true).length)&&(decide (d.length=d.length)&&((decide (((((a.set 0 (aP (aH kd 0) d)).set 1 (aP (aH kd 1) d)).set 2 (aP (aH kd 2) d)).set 3 (aP (aH kd 3) d)).length≤274877906944)&&(decide (((((b.set 0 vs).set 1 vs).set 2 vs).set 3 vs).length≤274877906944)&&(decide (((((c.set 0 true).set 1 true).set 2 true).set 3 true).length≤274877906944)&&(decide (d.length≤274877906944)&&(bet kd 1 2&&(decide (d.length=4)&&(aA d&&(decide (4<(↑((((a.set 0 (aP (aH kd 0) d)).set 1 (aP (aH kd 1) d)).set 2 (aP (aH kd 2) d)).set 3 (aP (aH kd 3) d)).length:Int))&&(decide (4<((((a.set 0 (aP (aH kd 0) d)).set 1 (aP (aH kd 1) d)).set 2 (aP (aH kd 2) d)).set 3 (aP (aH kd 3) d)).length)&&(decide (4<(↑((((b.set 0 vs).set 1 vs).set 2 vs).set 3 vs).length:Int))&&(decide (4<((((b.set 0 vs).set 1 vs).set 2 vs).set 3 vs).length)&&(decide (4<(↑((((c.set 0 true).set 1 true).set 2 true).set 3 true).length:Int))&&(decide (4<((((c.set 0 true).set 1 true).set 2 true).set 3 true).length)&&true)))))))))))))&&(decide (((((a.set 0 (aP (aH kd 0) d)).set 1 (aP (aH kd 1) d)).set 2 (aP (aH kd 2) d)).set 3 (aP (aH kd 3) d)).length=(((((a.set 0 (aP (aH kd 0) d)).set 1 (aP (aH kd 1) d)).set 2 (aP (aH kd 2) d)).set 3 (aP (aH kd 3) d)).set 4 (aP (aH kd 4) d)).length)&&(decide (((((b.set 0 vs).set 1 vs).set 2 vs).set 3 vs).length=(((((b.set 0 vs).set 1 vs).set 2 vs).set 3 vs).set 4 vs).length)&&(decide (((((c.set 0 true).set 1 true).set 2 true).set 3 true).length=(((((c.set 0 true).set 1 true).set 2 true).set 3 true).set 4 true).length)&&(decide (d.length=d.length)&&((decide ((((((a.set 0 (aP (aH kd 0) d)).set 1 (aP (aH kd 1) d)).set 2 (aP (aH kd 2) d)).set 3 (aP (aH kd 3) d)).set 4 (aP (aH kd 4) d)).length≤274877906944)&&(decide ((((((b.set 0 vs).set 1 vs).set 2 vs).set 3 vs).set 4 vs).length≤274877906944)&&(decide ((((((c.set 0 true).set 1 true).set 2 true).set 3 true).set 4 true).length≤274877906944)&&(decide (d.length≤274877906944)&&(bet kd 1 2&&(decide (d.length=4)&&(aA d&&(decide (5<(↑(((((a.set 0 (aP (aH kd 0) d)).set 1 (aP (aH kd 1) d)).set 2 (aP (aH kd 2) d)).set 3 (aP (aH kd 3) d)).set 4 (aP (aH kd 4) d)).length:Int))&&(decide (5<(((((a.set 0 (aP (aH kd 0) d)).set 1 (aP (aH kd 1) d)).set 2 (aP (aH kd 2) d)).set 3 (aP (aH kd 3) d)).set 4 (aP (aH kd 4) d)).length)&&(decide (5<(↑(((((b.set 0 vs).set 1 vs).set 2 vs).set 3 vs).set 4 vs).length:Int))&&(decide (5<(((((b.set 0 vs).set 1 vs).set 2 vs).set 3 vs).set 4 vs).length)&&(decide (5<(↑(((((c.set 0 true).set 1 true).set 2 true).set 3 true).set 4 true).length:Int))&&(decide (5<(((((c.set 0 true).set 1 true).set 2 true).set 3 true).set 4 true).length)&&true)))))))))))))&&(decide ((((((a.set 0 (aP (aH kd 0) d)).set 1 (aP (aH kd 1) d)).set 2 (aP (aH kd 2) d)).set 3 (aP (aH kd 3) d)).set 4 (aP (aH kd 4) d)).length=((((((a.set 0 (aP (aH kd 0) d)).set 1 (aP (aH kd 1) d)).set 2 (aP (aH kd 2) d)).set 3 (aP (aH kd 3) d)).set 4 (aP (aH kd 4) d)).set 5 (aP (aH kd 5) d)).length)&&(decide ((((((b.set 0 vs).set 1 vs).set 2 vs).set 3 vs).set 4 vs).length=((((((b.set 0 vs).set 1 vs).set 2 vs).set 3 vs).set 4 vs).set 5 vs).length)&&(decide ((((((c.set 0 true).set 1 true).set 2 true).set 3 true).set 4 true).length=((((((c.set 0 true).set 1 true).set 2 true).set 3 true).set 4 true).set 5 true).length)&&(decide (d.length=d.length)&&((decide (((((((a.set 0 (aP (aH kd 0) d)).set 1 (aP (aH kd 1) d)).set 2 (aP (aH kd 2) d)).set 3 (aP (aH kd 3) d)).set 4 (aP (aH kd 4) d)).set 5 (aP (aH kd 5) d)).length≤274877906944)&&(decide (((((((b.set 0 vs).set 1 vs).set 2 vs).set 3 vs).set 4 vs).set 5 vs).length≤274877906944)&&(decide (((((((c.set 0 true).set 1 true).set 2 true).set 3 true).set 4 true).set 5 true).length≤274877906944)&&(decide (d.length≤274877906944)&&(bet kd 1 2&&(decide (d.length=4)&&(aA d&&(decide (6<(↑((((((a.set 0 (aP (aH kd 0) d)).set 1 (aP (aH kd 1) d)).set 2 (aP (aH kd 2) d)).set 3 (aP (aH kd 3) d)).set 4 (aP (aH kd 4) d)).set 5 (aP (aH kd 5) d)).length:Int))&&(decide (6<((((((a.set 0 (aP (aH kd 0) d)).set 1 (aP (aH kd 1) d)).set 2 (aP (aH kd 2) d)).set 3 (aP (aH kd 3) d)).set 4 (aP (aH kd 4) d)).set 5 (aP (aH kd 5) d)).length)&&(decide (6<(↑((((((b.set 0 vs).set 1 vs).set 2 vs).set 3 vs).set 4 vs).set 5 vs).length:Int))&&(decide (6<((((((b.set 0 vs).set 1 vs).set 2 vs).set 3 vs).set 4 vs).set 5 vs).length)&&(decide (6<(↑((((((c.set 0 true).set 1 true).set 2 true).set 3 true).set 4 true).set 5 true).length:Int))&&(decide (6<((((((c.set 0 true).set 1 true).set 2 true).set 3 true).set 4 true).set 5 true).length)&&true)))))))))))))&&(decide (((((((a.set 0 (aP (aH kd 0) d)).set 1 (aP (aH kd 1) d)).set 2 (aP (aH kd 2) d)).set 3 (aP (aH kd 3) d)).set 4 (aP (aH kd 4) d)).set 5 (aP (aH kd 5) d)).length=(((((((a.set 0 (aP (aH kd 0) d)).set 1 (aP (aH kd 1) d)).set 2 (aP (aH kd 2) d)).set 3 (aP (aH kd 3) d)).set 4 (aP (aH kd 4) d)).set 5 (aP (aH kd 5) d)).set 6 (aP (aH kd 6) d)).length)&&(decide (((((((b.set 0 vs).set 1 vs).set 2 vs).set 3 vs).set 4 vs).set 5 vs).length=(((((((b.set 0 vs).set 1 vs).set 2 vs).set 3 vs).set 4 vs).set 5 vs).set 6 vs).length)&&(decide (((((((c.set 0 true).set 1 true).set 2 true).set 3 true).set 4 true).set 5 true).length=(((((((c.set 0 true).set 1 true).set 2 true).set 3 true).set 4 true).set 5 true).set 6 true).length)&&(decide (d.length=d.length)&&((decide ((((((((a.set 0 (aP (aH kd 0) d)).set 1 (aP (aH kd 1) d)).set 2 (aP (aH kd 2) d)).set 3 (aP (aH kd 3) d)).set 4 (aP (aH kd 4) d)).set 5 (aP (aH kd 5) d)).set 6 (aP (aH kd 6) d)).length≤274877906944)&&(decide ((((((((b.set 0 vs).set 1 vs).set 2 vs).set 3 vs).set 4 vs).set 5 vs).set 6 vs).length≤274877906944)&&(decide ((((((((c.set 0 true).set 1 true).set 2 true).set 3 true).set 4 true).set 5 true).set 6 true).length≤274877906944)&&(decide (d.length≤274877906944)&&(bet kd 1 2&&(decide (d.length=4)&&(aA d&&(decide (7<(↑(((((((a.set 0 (aP (aH kd 0) d)).set 1 (aP (aH kd 1) d)).set 2 (aP (aH kd 2) d)).set 3 (aP (aH kd 3) d)).set 4 (aP (aH kd 4) d)).set 5 (aP (aH kd 5) d)).set 6 (aP (aH kd 6) d)).length:Int))&&(decide (7<(((((((a.set 0 (aP (aH kd 0) d)).set 1 (aP (aH kd 1) d)).set 2 (aP (aH kd 2) d)).set 3 (aP (aH kd 3) d)).set 4 (aP (aH kd 4) d)).set 5 (aP (aH kd 5) d)).set 6 (aP (aH kd 6) d)).length)&&(decide (7<(↑(((((((b.set 0 vs).set 1 vs).set 2 vs).set 3 vs).set 4 vs).set 5 vs).set 6 vs).length:Int))&&(decide (7<(((((((b.set 0 vs).set 1 vs).set 2 vs).set 3 vs).set 4 vs).set 5 vs).set 6 vs).length)&&(decide (7<(↑(((((((c.set 0 true).set 1 true).set 2 true).set 3 true).set 4 true).set 5 true).set 6 true).length:Int))&&(decide (7<(((((((c.set 0 true).set 1 true).set 2 true).set 3 true).set 4 true).set 5 true).set 6 true).length)&&true)))))))))))))&&(decide ((((((((a.set 0 (aP (aH kd 0) d)).set 1 (aP (aH kd 1) d)).set 2 (aP (aH kd 2) d)).set 3 (aP (aH kd 3) d)).set 4 (aP (aH kd 4) d)).set 5 (aP (aH kd 5) d)).set 6 (aP (aH kd 6) d)).length=((((((((a.set 0 (aP (aH kd 0) d)).set 1 (aP (aH kd 1) d)).set 2 (aP (aH kd 2) d)).set 3 (aP (aH kd 3) d)).set 4 (aP (aH kd 4) d)).set 5 (aP (aH kd 5) d)).set 6 (aP (aH kd 6) d)).set 7 (aP (aH kd 7) d)).length)&&(decide ((((((((b.set 0 vs).set 1 vs).set 2 vs).set 3 vs).set 4 vs).set 5 vs).set 6 vs).length=((((((((b.set 0 vs).set 1 vs).set 2 vs).set 3 vs).set 4 vs).set 5 vs).set 6 vs).set 7 vs).length)&&(decide ((((((((c.set 0 true).set 1 true).set 2 true).set 3 true).set 4 true).set 5 true).set 6 true).length=((((((((c.set 0 true).set 1 true).set 2 true).set 3 true).set 4 true).set 5 true).set 6 true).set 7 true).length)&&(decide (d.length=d.length)&&((decide (((((((((a.set 0 (aP (aH kd 0) d)).set 1 (aP (aH kd 1) d)).set 2 (aP (aH kd 2) d)).set 3 (aP (aH kd 3) d)).set 4 (aP (aH kd 4) d)).set 5 (aP (aH kd 5) d)).set 6 (aP (aH kd 6) d)).set 7 (aP (aH kd 7) d)).length≤274877906944)&&(decide (((((((((b.set 0 vs).set 1 vs).set 2 vs).set 3 vs).set 4 vs).set 5 vs).set 6 vs).set 7 vs).length≤274877906944)&&(decide (((((((((c.set 0 true).set 1 true).set 2 true).set 3 true).set 4 true).set 5 true).set 6 true).set 7 true).length≤274877906944)&&(decide (d.length≤274877906944)&&true))))&&true))))))))))))))))))))))))))))))))))))))))))))),[]⟩:=by kernel_rfl
end
section
theorem xV {d:List Int} (h:aG d 4=true):aA d=true∧d.length=4:=by
 simp only[aG,Bool.and_eq_true,rpS,beq_iff_eq]at h
 exact⟨h.1,by omega⟩
theorem HJ {k:Int} {a b:List Int} {c:List Bool} {on:Bool} {kd:Int} {d:List Int} {vs:Int} (h:bB k a b c on kd d vs=true):bet k 1 2=true∧aA a=true∧ ∀i,i<8→0≤b.getD i 0∧b.getD i 0≤99:=by
 cases on with
 |false=>
  have K:=fH.1 h
  exact⟨K.s.hk,K.s.hf,fun i hi=>K.s.bnd hi⟩
 |true=>
  have K:=oT.1 h
  have hv:=bN.1 K.hvs
  refine⟨K.s.hk,K.fok,fun i hi=> ?_⟩
  by_cases e:b.getD i 0=vs
  ·omega
  ·have:=K.s.bnd hi
   rw[(KJ K.ha K.hb K.hc hi).2.1,if_neg e]at this
   exact this
theorem PB {b:List Int} {n:Int} (h0:0≤n) (h: ∀i,i<b.length→b.getD i 0≤n):mxL b≤n:=by
 rcases(nF b).2 with e|⟨i,hi,e⟩
 ·omega
 ·have:=h i hi;omega
theorem U5 {b:List Int} {n x:Int} {j:Nat} (h0:0≤n) (hx:x≤n) (h: ∀i,i<b.length→b.getD i 0≤n):mxL (b.set j x)≤n:=PB h0 fun i hi=>by
 rw[List.length_set]at hi
 rw[bD]
 split
 ·exact hx
 ·exact h i hi
theorem oO (l:List Bool) (a b:Nat) (x:Bool):(l.set a x).getD b false=if a=b∧a<l.length then x else l.getD b false:=by
 rw[List.getD_eq_getElem?_getD,List.getElem?_set]
 by_cases h:a=b
 ·subst h
  by_cases h2:a<l.length
  ·simp[h2]
  ·simp[h2,List.getD_eq_getElem?_getD,List.getElem?_eq_none (Nat.le_of_not_lt h2)]
 ·simp[h,List.getD_eq_getElem?_getD]
theorem Sok.drop {k:Int} {a b:List Int} {c:List Bool} (h:Sok k a b c) (x:Nat):Sok k (a.set x 0) (b.set x 0) (c.set x false):=by
 refine⟨h.hk,by rw[List.length_set];exact h.ha,by rw[List.length_set];exact h.hb,by rw[List.length_set];exact h.hc,dD h.hf rfl,fun i hi hc=> ?_,fun i hi hc=> ?_⟩
 ·rw[oO]at hc
  have hne: ¬(x=i∧x<c.length):=fun e=>by rw[if_pos e]at hc;cases hc
  rw[if_neg hne]at hc
  have hxi:x≠i:=fun e=>hne ⟨e,by have:=h.hc;omega⟩
  obtain⟨t1,t2⟩:=h.th i hi hc
  have e:(b.set x 0).getD i 0=b.getD i 0:=by rw[bD,if_neg (fun h=>hxi h.1)]
  rw[e]
  refine⟨t1, ?_⟩
  have F:=(mY (by rw[bV];exact h.hc)).1 t2
  refine pW h.hk (by rw[bV,List.length_set];exact h.hc) (d:=dL k a (flg (bG b c (b.getD i 0)))) fun j hj hm=> ?_
  rw[fT _ _ _ _ (by rw[List.length_set,h.hc];exact hj),oO,Bool.and_eq_true]at hm
  have hxj:x≠j:=fun e=>by
   have:=hm.1
   rw[if_pos ⟨e,by have:=h.hc;omega⟩]at this;cases this
  rw[if_neg (fun h=>hxj h.1),bD,if_neg (fun h=>hxj h.1)]at hm
  rw[bD,if_neg (fun h=>hxj h.1)]
  exact F j hj (by rw[fT _ _ _ _ (by rw[h.hc];exact hj),hm.1,hm.2];rfl)
 ·rw[bD,bD]
  by_cases e:x=i
  ·rw[if_pos ⟨e,by have:=h.ha;omega⟩,if_pos ⟨e,by have:=h.hb;omega⟩];exact⟨rfl,rfl⟩
  ·rw[if_neg (fun h=>e h.1),if_neg (fun h=>e h.1)]
   rw[oO,if_neg (fun h=>e h.1)]at hc
   exact h.no i hi hc
def BG:aM:=fun args h=>
 match args,h with
 |[.agg [.int .i64 k,.view _ (.ints .i64 a) n1 1 _,.view _ (.ints .i64 b) n2 1 _,.view _ (.bools c) n3 1 _,.bool on,.int .i64 kd,.view _ (.ints .i64 d) n4 1 _,.int .i64 vs],.c (.int .i64 x),.c (.view _ (.ints .i64 e) n5 1 _)],[]=>
  some (.tup [.agg (dU ⟨k,a,b,c,on,kd,d,vs⟩ x e).cells,.c (.bool (CM ⟨k,a,b,c,on,kd,d,vs⟩ x e))],[.live (.ints .i64 (dU ⟨k,a,b,c,on,kd,d,vs⟩ x e).a),.live (.ints .i64 (dU ⟨k,a,b,c,on,kd,d,vs⟩ x e).b),.live (.bools (dU ⟨k,a,b,c,on,kd,d,vs⟩ x e).c),.live (.ints .i64 (dU ⟨k,a,b,c,on,kd,d,vs⟩ x e).d)],[decide (a.length≤274877906944),decide (d.length≤274877906944),decide (e.length≤274877906944)])
 |_,_=>none
theorem m35:aS Tryz.prog 186 BG:=by
 intro args h res h' o hnorm he ho
 unfold BG at he
 split at he
 case h_2=>cases he
 rename_i k nl1 a n1 cap1 nl2 b n2 cap2 nl3 c n3 cap3 on kd nl4 d n4 cap4 vs x nl5 e n5 cap5
 simp only[Option.some.injEq,Prod.mk.injEq]at he
 obtain⟨rfl,rfl,rfl⟩:=he
 simp only[List.mem_cons,List.not_mem_nil,or_false,forall_eq_or_imp,forall_eq,decide_eq_true_eq]at ho
 obtain⟨o1,o2,o3⟩:=ho
 simp only[b8,AV.norm,bA,aF.norm,Con.size,List.cons.injEq,AV.c.injEq,AV.agg.injEq,aF.view.injEq,aL,true_and,and_true]at hnorm
 obtain⟨⟨⟨rfl,rfl,rfl⟩,⟨rfl,rfl,rfl⟩,⟨rfl,rfl,rfl⟩,rfl,rfl,rfl⟩,rfl,rfl,rfl⟩:=hnorm
 unfold dU CM PK.ok
 dsimp only
 cases h:bB k a b c on kd d vs with
 |false=>exact iR (mo t62 (a2C k a b c on kd d vs x e) (by simp only[h,o1,o2,bS,rpS]))
 |true=>
  obtain⟨ha,hb,hc⟩:=dT h
  cases hx:bet x 1 2 with
  |false=>exact iR (mo t62 (a2D k a b c on kd d vs x e) (by simp only[h,hx,o1,o2,bS,rpS]))
  |true=>
   have hve:=nX e
   cases he:aG e 4 with
   |false=>exact iR (mo t62 (a2E k a b c on kd d vs x e) (by simp only[h,hx,hve,he,o1,o2,o3,bS,rpS]))
   |true=>
    cases ho:on with
    |true=>
     subst ho
     exact mo t62 (a2F k a b c true kd d vs x e) (by simp only[h,hx,hve,he,o2,o3,ha,hb,hc,bS,rpS];simp)
    |false=>
     subst ho
     have K:=fH.1 h
     have hm:=K.s.mx
     rw[K.s.top]
     cases hT:mxL b==99 with
     |true=>
      have hT':mxL b≥99:=by have:=beq_iff_eq.1 hT;omega
      exact mo t62 (a2G k a b c false kd d vs x e) (by simp only[h,hx,hve,he,hT',o2,o3,ha,hb,hc,bS,rpS];simp)
     |false=>
      have hT': ¬mxL b≥99:=fun h=>by
       have:mxL b=99:=by omega
       rw[this]at hT;cases hT
      have e6:=a2H k a b c false kd d vs x e
      rw[aB (by omega) (by omega),Nat.zero_add]at e6
      exact mo t62 e6 (by simp only[h,hx,hve,he,hT',o2,o3,ha,hb,hc,bS,rpS];simp[o3])
def kP:aM:=fun args h=>
 match args,h with
 |[.agg [.int .i64 k,.view _ (.ints .i64 a) n1 1 _,.view _ (.ints .i64 b) n2 1 _,.view _ (.bools c) n3 1 _,.bool on,.int .i64 kd,.view _ (.ints .i64 d) n4 1 _,.int .i64 vs]],[]=>
  some (.c (.sl 0 0 (bif on then d else l2D k a b c).length 1 none),[.live (.ints .i64 (bif on then d else l2D k a b c))],[decide (d.length≤274877906944),on||bet k 1 2&&(decide (a.length=8)&&(aA a&&(decide (b.length=8)&&(decide (c.length=8)&&decide (mxL b≤1000)))))])
 |_,_=>none
theorem m93:aS Tryz.prog 115 kP:=by
 intro args h res h' o hnorm he ho
 unfold kP at he
 split at he
 case h_2=>cases he
 rename_i k nl1 a n1 cap1 nl2 b n2 cap2 nl3 c n3 cap3 on kd nl4 d n4 cap4 vs
 simp only[Option.some.injEq,Prod.mk.injEq]at he
 obtain⟨rfl,rfl,rfl⟩:=he
 simp only[List.mem_cons,List.not_mem_nil,or_false,forall_eq_or_imp,forall_eq,decide_eq_true_eq]at ho
 obtain⟨o1,o2⟩:=ho
 simp only[b8,AV.norm,bA,aF.norm,Con.size,List.cons.injEq,AV.c.injEq,AV.agg.injEq,aF.view.injEq,aL,true_and,and_true]at hnorm
 obtain⟨⟨rfl,rfl,rfl⟩,⟨rfl,rfl,rfl⟩,⟨rfl,rfl,rfl⟩,rfl,rfl,rfl⟩:=hnorm
 cases ho:on with
 |true=>
  have e:=a3O k a b c true kd d vs
  rw[Nat.zero_add]at e
  exact mo t62 e (by simp[o1])
 |false=>
  rw[ho,Bool.false_or]at o2
  simp only[Bool.and_eq_true,rpS]at o2
  exact mo t62 (a3P k a b c false kd d vs) (by simp[o2])
def xA:aM:=fun args h=>
 match args,h with
 |[.agg [.int .i64 k,.view _ (.ints .i64 a) n1 1 _,.view _ (.ints .i64 b) n2 1 _,.view _ (.bools c) n3 1 _,.bool on,.int .i64 kd,.view _ (.ints .i64 d) n4 1 _,.int .i64 vs]],[]=>
  some (.agg (iL ⟨k,a,b,c,on,kd,d,vs⟩).cells,[.live (.ints .i64 (iL ⟨k,a,b,c,on,kd,d,vs⟩).a),.live (.ints .i64 (iL ⟨k,a,b,c,on,kd,d,vs⟩).b),.live (.bools (iL ⟨k,a,b,c,on,kd,d,vs⟩).c),.live (.ints .i64 (iL ⟨k,a,b,c,on,kd,d,vs⟩).d)],[decide (a.length≤274877906944),decide (d.length≤274877906944)])
 |_,_=>none
theorem m18:aS Tryz.prog 135 xA:=by
 intro args h res h' o hnorm he ho
 unfold xA at he
 split at he
 case h_2=>cases he
 rename_i k nl1 a n1 cap1 nl2 b n2 cap2 nl3 c n3 cap3 on kd nl4 d n4 cap4 vs
 simp only[Option.some.injEq,Prod.mk.injEq]at he
 obtain⟨rfl,rfl,rfl⟩:=he
 simp only[List.mem_cons,List.not_mem_nil,or_false,forall_eq_or_imp,forall_eq,decide_eq_true_eq]at ho
 obtain⟨o1,o2⟩:=ho
 simp only[b8,AV.norm,bA,aF.norm,Con.size,List.cons.injEq,AV.c.injEq,AV.agg.injEq,aF.view.injEq,aL,true_and,and_true]at hnorm
 obtain⟨⟨rfl,rfl,rfl⟩,⟨rfl,rfl,rfl⟩,⟨rfl,rfl,rfl⟩,rfl,rfl,rfl⟩:=hnorm
 unfold iL PK.ok
 dsimp only
 cases h:bB k a b c on kd d vs with
 |false=>exact wN (h:=[]) (mo t62 (a1Y k a b c on kd d vs) (by simp only[h,o1,o2];rfl))
 |true=>
  obtain⟨ha,hb,hc⟩:=dT h
  cases ho:on with
  |false=>subst ho;exact mo t62 (a1Z k a b c false kd d vs) (by simp only[h,o2,ha,hb,hc,bS,rpS];simp)
  |true=>
   obtain⟨h1,h2,h3⟩:=D1 h ho
   obtain⟨hf,hd4⟩:=xV h1
   subst ho
   have e:=a20 k a b c true kd d vs
   rw[G0 ha,G0 hb,G0 hc]at e
   have mm:=mo (f:=135) t62 e (by simp only[h,h1,h2,hf,hd4,List.length_set,ha,hb,hc,bS,rpS];simp)
   have ec:cdL kd d=iH kd d:=by rw[sC h2,r8 h1]
   unfold cdL at ec
   rw[ec]at mm
   rw[ha,hb,hc]at mm⊢
   exact mm
def wZ:aM:=fun args h=>
 match args,h with
 |[.agg [.int .i64 k,.view _ (.ints .i64 a) n1 1 _,.view _ (.ints .i64 b) n2 1 _,.view _ (.bools c) n3 1 _,.bool on,.int .i64 kd,.view _ (.ints .i64 d) n4 1 _,.int .i64 vs],.c (.int .i64 x)],[]=>
  some (.agg (jI ⟨k,a,b,c,on,kd,d,vs⟩ x).cells,[.live (.ints .i64 (jI ⟨k,a,b,c,on,kd,d,vs⟩ x).a),.live (.ints .i64 (jI ⟨k,a,b,c,on,kd,d,vs⟩ x).b),.live (.bools (jI ⟨k,a,b,c,on,kd,d,vs⟩ x).c),.live (.ints .i64 (jI ⟨k,a,b,c,on,kd,d,vs⟩ x).d)],[decide (a.length≤274877906944),decide (d.length≤274877906944)])
 |_,_=>none
theorem m97:aS Tryz.prog 127 wZ:=by
 intro args h res h' o hnorm he ho
 unfold wZ at he
 split at he
 case h_2=>cases he
 rename_i k nl1 a n1 cap1 nl2 b n2 cap2 nl3 c n3 cap3 on kd nl4 d n4 cap4 vs x
 simp only[Option.some.injEq,Prod.mk.injEq]at he
 obtain⟨rfl,rfl,rfl⟩:=he
 simp only[List.mem_cons,List.not_mem_nil,or_false,forall_eq_or_imp,forall_eq,decide_eq_true_eq]at ho
 obtain⟨o1,o2⟩:=ho
 simp only[b8,AV.norm,bA,aF.norm,Con.size,List.cons.injEq,AV.c.injEq,AV.agg.injEq,aF.view.injEq,aL,true_and,and_true]at hnorm
 obtain⟨⟨rfl,rfl,rfl⟩,⟨rfl,rfl,rfl⟩,⟨rfl,rfl,rfl⟩,rfl,rfl,rfl⟩:=hnorm
 unfold jI vP PK.ok
 dsimp only
 cases h:bB k a b c on kd d vs with
 |false=>exact wN (h:=[]) (mo t62 (a3S k a b c on kd d vs x) (by simp only[h,o1,o2];rfl))
 |true=>
  obtain⟨ha,hb,hc⟩:=dT h
  obtain⟨hk,hf,hbb⟩:=HJ h
  cases hx:bet x 0 7 with
  |false=>exact wN (h:=[]) (mo t62 (a3T k a b c on kd d vs x) (by simp only[h,hx,o1,o2,bS,rpS]))
  |true=>
   have hx':=bN.1 hx
   have hmx:mxL (b.set x.toNat 0)≤99:=U5 (by omega) (by omega) fun i hi=>(hbb i (by omega)).2
   have hfs:aA (a.set x.toNat 0)=true:=dD hf rfl
   have e1:(a.set x.toNat 0).length=a.length:=List.length_set
   have e2:(b.set x.toNat 0).length=b.length:=List.length_set
   have e3:(c.set x.toNat false).length=c.length:=List.length_set
   cases ho:on with
   |true=>
    subst ho
    rw[Bool.not_true,Bool.and_false]
    have mm:=mo (f:=127) t62 (a3W k a b c true kd d vs x) (by simp only[h,hx,hk,hfs,e1,e2,e3,ha,hb,hc,bS,rpS];omega)
    show bE _ _ _ _ (.agg [.int .i64 k,.sl 0 0 (a.set x.toNat 0).length 1 none,.sl 1 0 (b.set x.toNat 0).length 1 none,.sl 2 0 (c.set x.toNat false).length 1 none,.bool true,.int .i64 kd,.sl 3 0 d.length 1 none,.int .i64 vs]) _
    rw[e1,e2,e3]
    exact mm
   |false=>
    subst ho
    have K:=fH.1 h
    have hr:=(K.s.drop x.toNat).rd.2.2
    rw[Bool.not_false,Bool.and_true,←hr]
    cases hq:l2B k (a.set x.toNat 0) (b.set x.toNat 0) (c.set x.toNat false)with
    |false=>exact mo t62 (a3U k a b c false kd d vs x) (by simp only[h,hx,hq,hk,hfs,e1,e2,e3,ha,hb,hc,bS,rpS];omega)
    |true=>
     have mm:=mo (f:=127) t62 (a3V k a b c false kd d vs x) (by simp only[h,hx,hq,hk,hfs,e1,e2,e3,ha,hb,hc,bS,rpS];omega)
     show bE _ _ _ _ (.agg [.int .i64 k,.sl 0 0 (a.set x.toNat 0).length 1 none,.sl 1 0 (b.set x.toNat 0).length 1 none,.sl 2 0 (c.set x.toNat false).length 1 none,.bool false,.int .i64 kd,.sl 3 0 d.length 1 none,.int .i64 vs]) _
     rw[e1,e2,e3]
     exact mm
def BR:aM:=fun args h=>
 match args,h with
 |[.agg [.int .i64 k,.view _ (.ints .i64 a) n1 1 _,.view _ (.ints .i64 b) n2 1 _,.view _ (.bools c) n3 1 _,.bool on,.int .i64 kd,.view _ (.ints .i64 d) n4 1 _,.int .i64 vs],.c (.int .i64 x)],[]=>
  some (.agg (jI ⟨k,a,b,c,on,kd,d,vs⟩ x).cells,[.live (.ints .i64 (jI ⟨k,a,b,c,on,kd,d,vs⟩ x).a),.live (.ints .i64 (jI ⟨k,a,b,c,on,kd,d,vs⟩ x).b),.live (.bools (jI ⟨k,a,b,c,on,kd,d,vs⟩ x).c),.live (.ints .i64 (jI ⟨k,a,b,c,on,kd,d,vs⟩ x).d)],[decide (d.length≤274877906944)])
 |_,_=>none
theorem m45:aS Tryz.prog 79 BR:=by
 intro args h res h' o hnorm he ho
 unfold BR at he
 split at he
 case h_2=>cases he
 rename_i k nl1 a n1 cap1 nl2 b n2 cap2 nl3 c n3 cap3 on kd nl4 d n4 cap4 vs x
 simp only[Option.some.injEq,Prod.mk.injEq]at he
 obtain⟨rfl,rfl,rfl⟩:=he
 simp only[List.mem_cons,List.not_mem_nil,or_false,forall_eq_or_imp,forall_eq,decide_eq_true_eq]at ho
 have o2:=ho
 simp only[b8,AV.norm,bA,aF.norm,Con.size,List.cons.injEq,AV.c.injEq,AV.agg.injEq,aF.view.injEq,aL,true_and,and_true]at hnorm
 obtain⟨⟨rfl,rfl,rfl⟩,⟨rfl,rfl,rfl⟩,⟨rfl,rfl,rfl⟩,rfl,rfl,rfl⟩:=hnorm
 unfold jI vP PK.ok
 dsimp only
 cases h:bB k a b c on kd d vs with
 |false=>exact wN (h:=[]) (mo t62 (a2Y k a b c on kd d vs x) (by simp only[h,o2];rfl))
 |true=>
  obtain⟨ha,hb,hc⟩:=dT h
  obtain⟨hk,hf,hbb⟩:=HJ h
  cases hx:bet x 0 7 with
  |false=>exact wN (h:=[]) (mo t62 (a2Z k a b c on kd d vs x) (by simp only[h,hx,o2,bS,rpS]))
  |true=>
   have hx':=bN.1 hx
   have hfs:aA (a.set x.toNat 0)=true:=dD hf rfl
   have e1:(a.set x.toNat 0).length=a.length:=List.length_set
   have e2:(b.set x.toNat 0).length=b.length:=List.length_set
   have e3:(c.set x.toNat false).length=c.length:=List.length_set
   cases hq:rdS k (a.set x.toNat 0) (b.set x.toNat 0) (c.set x.toNat false)with
   |false=>
    cases ho:on with
    |true=>
     subst ho
     have mm:=mo (f:=79) t62 (a31 k a b c true kd d vs x) (by simp only[h,hx,hq,hk,hfs,e1,e2,e3,ha,hb,hc,bS,rpS];omega)
     show bE _ _ _ _ (.agg [.int .i64 k,.sl 0 0 (a.set x.toNat 0).length 1 none,.sl 1 0 (b.set x.toNat 0).length 1 none,.sl 2 0 (c.set x.toNat false).length 1 none,.bool true,.int .i64 kd,.sl 3 0 d.length 1 none,.int .i64 vs]) _
     rw[e1,e2,e3]
     exact mm
    |false=>
     subst ho
     exact mo t62 (a30 k a b c false kd d vs x) (by simp only[h,hx,hq,hk,hfs,e1,e2,e3,ha,hb,hc,bS,rpS];omega)
   |true=>
    have mm:=mo (f:=79) t62 (a32 k a b c on kd d vs x) (by simp only[h,hx,hq,hk,hfs,e1,e2,e3,ha,hb,hc,bS,rpS];omega)
    show bE _ _ _ _ (.agg [.int .i64 k,.sl 0 0 (a.set x.toNat 0).length 1 none,.sl 1 0 (b.set x.toNat 0).length 1 none,.sl 2 0 (c.set x.toNat false).length 1 none,.bool on,.int .i64 kd,.sl 3 0 d.length 1 none,.int .i64 vs]) _
    rw[e1,e2,e3]
    exact mm
end
section
noncomputable def T63:List aZ:=[⟨186,[],nm BG⟩,⟨115,[],nm kP⟩,⟨135,[],nm xA⟩,⟨127,[],nm wZ⟩,⟨79,[],nm BR⟩]++T62
theorem e63:a7 Tryz.prog T63:=by
 refine a7.append ?_ e62
 intro e he
 simp only[List.mem_cons,List.not_mem_nil,or_false]at he
 rcases he with rfl|rfl|rfl|rfl|rfl
 ·exact m35.ok
 ·exact m93.ok
 ·exact m18.ok
 ·exact m97.ok
 ·exact m45.ok
theorem t63:bK Tryz.prog (a9 T63):=aO e63
theorem a2Q (k:Int) (a b:List Int) (c:List Bool) (on:Bool) (kd:Int) (d:List Int) (vs:Int) (x:Int):aE tt (a9 T63) ([]) 100 Tryz.f134 [.agg [.int .i64 k,.view none (.ints .i64 a) a.length 1 none,.view none (.ints .i64 b) b.length 1 none,.view none (.bools c) c.length 1 none,.bool on,.int .i64 kd,.view none (.ints .i64 d) d.length 1 none,.int .i64 vs],.c (.int .i64 x)] [] [(0,true)]=
  some ⟨.tup [.agg [.int .i64 0,.nils,.nils,.nils,.bool false,.int .i64 0,.nils,.int .i64 0],.c (.bool false)],[],(decide (a.length≤274877906944)&&(decide (d.length≤274877906944)&&(rp3 (!bB k a b c on kd d vs) ((!bB k a b c on kd d vs)&&true)))),[]⟩:=by kernel_rfl
theorem a2R (k:Int) (a b:List Int) (c:List Bool) (on:Bool) (kd:Int) (d:List Int) (vs:Int) (x:Int):aE tt (a9 T63) ([]) 100 Tryz.f134 [.agg [.int .i64 k,.view none (.ints .i64 a) a.length 1 none,.view none (.ints .i64 b) b.length 1 none,.view none (.bools c) c.length 1 none,.bool on,.int .i64 kd,.view none (.ints .i64 d) d.length 1 none,.int .i64 vs],.c (.int .i64 x)] [] [(0,false),(0,true)]=
  some ⟨.tup [.agg [.int .i64 0,.nils,.nils,.nils,.bool false,.int .i64 0,.nils,.int .i64 0],.c (.bool false)],[],(decide (a.length≤274877906944)&&(decide (d.length≤274877906944)&&(rp3 (!!bB k a b c on kd d vs) ((bif !bB k a b c on kd d vs then true else !bet x 1 2)&&true)))),[]⟩:=by kernel_rfl
theorem a2S (k:Int) (a b:List Int) (c:List Bool) (on:Bool) (kd:Int) (d:List Int) (vs:Int) (x:Int):aE tt (a9 T63) ([]) 100 Tryz.f134 [.agg [.int .i64 k,.view none (.ints .i64 a) a.length 1 none,.view none (.ints .i64 b) b.length 1 none,.view none (.bools c) c.length 1 none,.bool on,.int .i64 kd,.view none (.ints .i64 d) d.length 1 none,.int .i64 vs],.c (.int .i64 x)] [] [(0,false),(0,false),(0,true)]=
  some ⟨.tup [.agg [.int .i64 k,.sl 0 0 a.length 1 none,.sl 1 0 b.length 1 none,.sl 2 0 c.length 1 none,.bool on,.int .i64 kd,.sl 3 0 d.length 1 none,.int .i64 vs],.c (.bool false)],[.live (.ints .i64 a),.live (.ints .i64 b),.live (.bools c),.live (.ints .i64 d)],(decide (a.length≤274877906944)&&(decide (d.length≤274877906944)&&(rp3 (!!bB k a b c on kd d vs) ((!bif !bB k a b c on kd d vs then true else !bet x 1 2)&&((k==x)&&(decide (a.length≤274877906944)&&(decide (b.length≤274877906944)&&(decide (c.length≤274877906944)&&((decide (d.length≤274877906944))&&true))))))))),[]⟩:=by kernel_rfl
theorem a2T (k:Int) (a b:List Int) (c:List Bool) (on:Bool) (kd:Int) (d:List Int) (vs:Int) (x:Int):aE tt (a9 T63) ([]) 100 Tryz.f134 [.agg [.int .i64 k,.view none (.ints .i64 a) a.length 1 none,.view none (.ints .i64 b) b.length 1 none,.view none (.bools c) c.length 1 none,.bool on,.int .i64 kd,.view none (.ints .i64 d) d.length 1 none,.int .i64 vs],.c (.int .i64 x)] [] [(0,false),(0,false),(0,false)]=
  some ⟨.tup [.agg [.int .i64 (dU {k:=k,a:=a,b:=b,c:=c,on:=on,kd:=kd,d:=d,vs:=vs} x (bif on then d else l2D k a b c)).k,.sl 0 0 (dU {k:=k,a:=a,b:=b,c:=c,on:=on,kd:=kd,d:=d,vs:=vs} x (bif on then d else l2D k a b c)).a.length 1 none,.sl 1 0 (dU {k:=k,a:=a,b:=b,c:=c,on:=on,kd:=kd,d:=d,vs:=vs} x (bif on then d else l2D k a b c)).b.length 1 none,.sl 2 0 (dU {k:=k,a:=a,b:=b,c:=c,on:=on,kd:=kd,d:=d,vs:=vs} x (bif on then d else l2D k a b c)).c.length 1 none,.bool (dU {k:=k,a:=a,b:=b,c:=c,on:=on,kd:=kd,d:=d,vs:=vs} x (bif on then d else l2D k a b c)).on,.int .i64 (dU {k:=k,a:=a,b:=b,c:=c,on:=on,kd:=kd,d:=d,vs:=vs} x (bif on then d else l2D k a b c)).kd,.sl 3 0 (dU {k:=k,a:=a,b:=b,c:=c,on:=on,kd:=kd,d:=d,vs:=vs} x (bif on then d else l2D k a b c)).d.length 1 none,.int .i64 (dU {k:=k,a:=a,b:=b,c:=c,on:=on,kd:=kd,d:=d,vs:=vs} x (bif on then d else l2D k a b c)).vs],.c (.bool (CM {k:=k,a:=a,b:=b,c:=c,on:=on,kd:=kd,d:=d,vs:=vs} x (bif on then d else l2D k a b c)))],[.live (.ints .i64 (dU {k:=k,a:=a,b:=b,c:=c,on:=on,kd:=kd,d:=d,vs:=vs} x (bif on then d else l2D k a b c)).a),.live (.ints .i64 (dU {k:=k,a:=a,b:=b,c:=c,on:=on,kd:=kd,d:=d,vs:=vs} x (bif on then d else l2D k a b c)).b),.live (.bools (dU {k:=k,a:=a,b:=b,c:=c,on:=on,kd:=kd,d:=d,vs:=vs} x (bif on then d else l2D k a b c)).c),.live (.ints .i64 (dU {k:=k,a:=a,b:=b,c:=c,on:=on,kd:=kd,d:=d,vs:=vs} x (bif on then d else l2D k a b c)).d)],(decide (a.length≤274877906944)&&(decide (d.length≤274877906944)&&(rp3 (!!bB k a b c on kd d vs) ((!bif !bB k a b c on kd d vs then true else !bet x 1 2)&&((!k==x)&&(decide (d.length≤274877906944)&&((on||bet k 1 2&&(decide (a.length=8)&&(aA a&&(decide (b.length=8)&&(decide (c.length=8)&&decide (mxL b≤1000))))))&&(decide ((bif on then d else l2D k a b c).length=(bif on then d else l2D k a b c).length)&&(decide (a.length≤274877906944)&&(decide (d.length≤274877906944)&&((decide ((bif on then d else l2D k a b c).length≤274877906944))&&true))))))))))),[]⟩:=by kernel_rfl
end
section
def H5:aM:=fun args h=>
 match args,h with
 |[.agg [.int .i64 k,.view _ (.ints .i64 a) n1 1 _,.view _ (.ints .i64 b) n2 1 _,.view _ (.bools c) n3 1 _,.bool on,.int .i64 kd,.view _ (.ints .i64 d) n4 1 _,.int .i64 vs],.c (.int .i64 x)],[]=>
  some (.tup [.agg (tbK ⟨k,a,b,c,on,kd,d,vs⟩ x).cells,.c (.bool (tbB ⟨k,a,b,c,on,kd,d,vs⟩ x))],[.live (.ints .i64 (tbK ⟨k,a,b,c,on,kd,d,vs⟩ x).a),.live (.ints .i64 (tbK ⟨k,a,b,c,on,kd,d,vs⟩ x).b),.live (.bools (tbK ⟨k,a,b,c,on,kd,d,vs⟩ x).c),.live (.ints .i64 (tbK ⟨k,a,b,c,on,kd,d,vs⟩ x).d)],[decide (a.length≤274877906944),decide (d.length≤274877906944)])
 |_,_=>none
theorem m41:aS Tryz.prog 134 H5:=by
 intro args h res h' o hnorm he ho
 unfold H5 at he
 split at he
 case h_2=>cases he
 rename_i k nl1 a n1 cap1 nl2 b n2 cap2 nl3 c n3 cap3 on kd nl4 d n4 cap4 vs x
 simp only[Option.some.injEq,Prod.mk.injEq]at he
 obtain⟨rfl,rfl,rfl⟩:=he
 simp only[List.mem_cons,List.not_mem_nil,or_false,forall_eq_or_imp,forall_eq,decide_eq_true_eq]at ho
 obtain⟨o1,o2⟩:=ho
 simp only[b8,AV.norm,bA,aF.norm,Con.size,List.cons.injEq,AV.c.injEq,AV.agg.injEq,aF.view.injEq,aL,true_and,and_true]at hnorm
 obtain⟨⟨rfl,rfl,rfl⟩,⟨rfl,rfl,rfl⟩,⟨rfl,rfl,rfl⟩,rfl,rfl,rfl⟩:=hnorm
 unfold tbK tbB PK.ok
 dsimp only
 cases h:bB k a b c on kd d vs with
 |false=>exact iR (mo t63 (a2Q k a b c on kd d vs x) (by simp only[h,o1,o2,bS,rpS]))
 |true=>
  obtain⟨ha,hb,hc⟩:=dT h
  obtain⟨hk,hf,hbb⟩:=HJ h
  cases hx:bet x 1 2 with
  |false=>exact iR (mo t63 (a2R k a b c on kd d vs x) (by simp only[h,hx,o1,o2,bS,rpS]))
  |true=>
   cases hq:k==x with
   |true=>exact mo t63 (a2S k a b c on kd d vs x) (by simp only[h,hx,hq,o2,ha,hb,hc,bS,rpS];simp)
   |false=>
    have er:krD k a b c on kd d vs=bif on then d else l2D k a b c:=by
     unfold krD
     rw[h,cond_true]
     cases ho:on with
     |true=>rw[cond_true,cond_true]
     |false=>subst ho;rw[cond_false,cond_false,(fH.1 h).s.rd.1]
    have hl:=xY k a b c on kd d vs o2
    have hm:mxL b≤99:=PB (by omega) fun i hi=>(hbb i (by omega)).2
    have hm':mxL b≤1000:=by omega
    have e:=a2T k a b c on kd d vs x
    rw[←er]at e
    have ob:(on||bet k 1 2&&(decide (a.length=8)&&(aA a&&(decide (b.length=8)&&(decide (c.length=8)&&decide (mxL b≤1000))))))=true:=by rw[hk,hf,ha,hb,hc,decide_eq_true hm'];simp
    exact mo t63 e (by simp only[h,hx,hq,ob,hl,o1,o2,bS,rpS])
noncomputable def T64:List aZ:=[⟨134,[],nm H5⟩]++T63
theorem e64:a7 Tryz.prog T64:=by
 refine a7.append ?_ e63
 intro e he
 simp only[List.mem_cons,List.not_mem_nil,or_false]at he
 subst he;exact m41.ok
end
section
noncomputable def T65:List aZ:=[]++T64
theorem e65:a7 Tryz.prog T65:=by
 refine a7.append ?_ e64
 intro e he
 cases he
end
section
def pkY (b:List Int) (p:Int):Int:=b.getD (p%(b.length:Int)).toNat 0*131+b.getD ((p*7+3)%(b.length:Int)).toNat 0*1117+p*29+p/(b.length:Int)*53
def pk (b:List Int) (p x:Int):Int:=bif decide (x<1)||((b.length:Int)==0)then 0 else bif decide (p<(b.length:Int))then b.getD p.toNat 0%x else(((pkY b p).toNat^^^(pkY b p/64).toNat:Nat):Int)%x
theorem hP {a n:Int} (h:0≤a):a.tmod n=a%n:=Int.tmod_eq_emod_of_nonneg h
theorem OI {a n:Int} (h:0≤a):a.tdiv n=a/n:=Int.tdiv_eq_ediv_of_nonneg h
noncomputable def T66:List aZ:=[]++T65
theorem e66:a7 Tryz.prog T66:=by
 refine a7.append ?_ e65
 intro e he
 cases he
end
section
end
section
theorem p2 (p:Int):p+1+1=p+2:=by omega
theorem p3 (p:Int):p+2+1=p+3:=by omega
theorem p4 (p:Int):p+3+1=p+4:=by omega
noncomputable def T67:List aZ:=[]++T66
theorem e67:a7 Tryz.prog T67:=by
 refine a7.append ?_ e66
 intro e he
 cases he
theorem t67:bK Tryz.prog (a9 T67):=aO e67
theorem VG (x:Int):aE tt (a9 T67) ([]) 100 Tryz.f266 [.c (.int .i64 x)] [] []=
  some ⟨.c (.sl 0 0 8 1 none),[.live (.bools [x.tmod 2==1,(IntKind.i64.wrap (x.tdiv 2)).tmod 2==1,(IntKind.i64.wrap ((IntKind.i64.wrap (x.tdiv 2)).tdiv 2)).tmod 2==1,(IntKind.i64.wrap ((IntKind.i64.wrap ((IntKind.i64.wrap (x.tdiv 2)).tdiv 2)).tdiv 2)).tmod 2==1,(IntKind.i64.wrap ((IntKind.i64.wrap ((IntKind.i64.wrap ((IntKind.i64.wrap (x.tdiv 2)).tdiv 2)).tdiv 2)).tdiv 2)).tmod 2==1,(IntKind.i64.wrap ((IntKind.i64.wrap ((IntKind.i64.wrap ((IntKind.i64.wrap ((IntKind.i64.wrap (x.tdiv 2)).tdiv 2)).tdiv 2)).tdiv 2)).tdiv 2)).tmod 2==1,(IntKind.i64.wrap ((IntKind.i64.wrap ((IntKind.i64.wrap ((IntKind.i64.wrap ((IntKind.i64.wrap ((IntKind.i64.wrap (x.tdiv 2)).tdiv 2)).tdiv 2)).tdiv 2)).tdiv 2)).tdiv 2)).tmod 2==1,(IntKind.i64.wrap ((IntKind.i64.wrap ((IntKind.i64.wrap ((IntKind.i64.wrap ((IntKind.i64.wrap ((IntKind.i64.wrap ((IntKind.i64.wrap (x.tdiv 2)).tdiv 2)).tdiv 2)).tdiv 2)).tdiv 2)).tdiv 2)).tdiv 2)).tmod 2==1])],true,[]⟩:=by kernel_rfl
def st8 (x:Int):List Bool:=[x%2==1,x/2%2==1,x/4%2==1,x/8%2==1,x/16%2==1,x/32%2==1,x/64%2==1,x/128%2==1]
theorem CZ {x:Int} (h0:0≤x) (h1:x≤1000000):IntKind.i64.wrap (x.tdiv 2)=x/2:=by rw[OI h0];exact aB (by omega) (by omega)
def GZ:aM:=fun args h=>
 match args,h with
 |[.c (.int .i64 x)],[]=>
  some (.c (.sl 0 0 8 1 none),[.live (.bools (st8 x))],[decide (0≤x),decide (x≤1000000)])
 |_,_=>none
theorem a88:aS Tryz.prog 266 GZ:=by
 intro args h res h' o hnorm he ho
 unfold GZ at he
 split at he
 case h_2=>cases he
 rename_i x
 simp only[Option.some.injEq,Prod.mk.injEq]at he
 obtain⟨rfl,rfl,rfl⟩:=he
 simp only[List.mem_cons,List.not_mem_nil,or_false,forall_eq_or_imp,forall_eq,decide_eq_true_eq]at ho
 obtain⟨o1,o2⟩:=ho
 have e:=VG x
 rw[CZ o1 o2,CZ (by omega) (by omega),CZ (by omega) (by omega),CZ (by omega) (by omega),CZ (by omega) (by omega),CZ (by omega) (by omega),CZ (by omega) (by omega),hP o1,hP (by omega),hP (by omega),hP (by omega),hP (by omega),hP (by omega),hP (by omega),hP (by omega)]at e
 rw[show x/2/2=x/4 from by omega,show x/4/2=x/8 from by omega,show x/8/2=x/16 from by omega,show x/16/2=x/32 from by omega,show x/32/2=x/64 from by omega,show x/64/2=x/128 from by omega]at e
 exact mo t67 e (by simp)
noncomputable def T68:List aZ:=[⟨266,[],nm GZ⟩]++T67
theorem e68:a7 Tryz.prog T68:=by
 refine a7.append ?_ e67
 intro e he
 simp only[List.mem_cons,List.not_mem_nil,or_false]at he
 subst he;exact a88.ok
theorem t68:bK Tryz.prog (a9 T68):=aO e68
end
section
theorem MT:aQ Tryz.prog 233 (dV tt (a9 T68) Tryz.f233 []):=cG hT t68 bF [] (by kernel_rfl) (by kernel_rfl)
noncomputable def T69:List aZ:=[⟨233,[],dV tt (a9 T68) Tryz.f233 []⟩]++T68
theorem e69:a7 Tryz.prog T69:=by
 refine a7.append ?_ e68
 intro e he
 simp only[List.mem_cons,List.not_mem_nil,or_false]at he
 subst he;exact MT
theorem t69:bK Tryz.prog (a9 T69):=aO e69
theorem UT (k:Int) (v:List Int) (x:Int):aE tt (a9 T69) ([]) 100 Tryz.f197 [.c (.int .i64 k),.c (.view none (.ints .i64 v) v.length 1 none),.c (.int .i64 x)] [] [(0,true)]=
  some ⟨.tup [.agg [.int .i64 0,.nils,.nils,.nils],.c (.bool false)],[],(rp3 (!bet k 1 2) ((!bet k 1 2)&&true)),[]⟩:=by kernel_rfl
theorem UU (k:Int) (v:List Int) (x:Int):aE tt (a9 T69) ([]) 100 Tryz.f197 [.c (.int .i64 k),.c (.view none (.ints .i64 v) v.length 1 none),.c (.int .i64 x)] [] [(0,false),(0,true)]=
  some ⟨.tup [.agg [.int .i64 0,.nils,.nils,.nils],.c (.bool false)],[],(rp2 (!!bet k 1 2) (decide (v.length≤274877906944)&&(!!bet k 1 2&&(rp4 (bif !bet k 1 2 then true else !vok v) true)))),[]⟩:=by kernel_rfl
theorem UV (k:Int) (v:List Int) (x:Int):aE tt (a9 T69) ([]) 100 Tryz.f197 [.c (.int .i64 k),.c (.view none (.ints .i64 v) v.length 1 none),.c (.int .i64 x)] [] [(0,false),(0,false),(0,true)]=
  some ⟨.tup [.agg [.int .i64 0,.nils,.nils,.nils],.c (.bool false)],[],(rp2 (!!bet k 1 2) (decide (v.length≤274877906944)&&(!!bet k 1 2&&(rp3 (!bif !bet k 1 2 then true else !vok v) ((bif bif !bet k 1 2 then true else !vok v then true else !bet x 1 99)&&true))))),[]⟩:=by kernel_rfl
theorem UW (k:Int) (v:List Int) (x:Int):aE tt (a9 T69) ([]) 100 Tryz.f197 [.c (.int .i64 k),.c (.view none (.ints .i64 v) v.length 1 none),.c (.int .i64 x)] [] [(0,false),(0,false),(0,false)]=
  some ⟨.tup [.agg [.int .i64 k,.sl 0 0 8 1 none,.sl 1 0 8 1 none,.sl 2 0 8 1 none],.c (.bool true)],[.live (.ints .i64 (cdL k v)),.live (.ints .i64 [x,x,x,x,x,x,x,x]),.live (.bools [true,true,true,true,true,true,true,true])],(rp2 (!!bet k 1 2) (decide (v.length≤274877906944)&&(!!bet k 1 2&&(rp3 (!bif !bet k 1 2 then true else !vok v) ((!bif bif !bet k 1 2 then true else !vok v then true else !bet x 1 99)&&((bet k 1 2&&(decide (v.length=4)&&(aA v&&true)))&&true)))))),[]⟩:=by kernel_rfl
theorem DN {P:Program} {f:FuncId} {args:List AV} {b:Bool} (hm:bE P f args [] (.tup [.agg [.int .i64 0,.nils,.nils,.nils],.c (.bool b)]) []):bE P f args [] (.tup [.agg [.int .i64 0,.sl 0 0 0 1 none,.sl 1 0 0 1 none,.sl 2 0 0 1 none],.c (.bool b)]) [.live (.ints .i64 []),.live (.ints .i64 []),.live (.bools [])]:=
 ((hm.nil1 (es:=1) (c0:=.ints .i64 []) rfl rfl).nil1 (es:=1) (c0:=.ints .i64 []) rfl rfl).nil1 (es:=1) (c0:=.bools []) rfl rfl
def snB (k:Int) (v:List Int) (x:Int):Bool:=bet k 1 2&&(aG v 4&&bet x 1 99)
def snK (k:Int) (v:List Int) (x:Int):PK:=bif snB k v x then⟨k,lC k v,FO x,FO true,false,0,[],0⟩else PK0
def C1:aM:=fun args h=>
 match args,h with
 |[.c (.int .i64 k),.c (.view _ (.ints .i64 v) n 1 _),.c (.int .i64 x)],[]=>
  some (.tup [.agg [.int .i64 (snK k v x).k,.sl 0 0 (snK k v x).a.length 1 none,.sl 1 0 (snK k v x).b.length 1 none,.sl 2 0 (snK k v x).c.length 1 none],.c (.bool (snB k v x))],[.live (.ints .i64 (snK k v x).a),.live (.ints .i64 (snK k v x).b),.live (.bools (snK k v x).c)],[decide (v.length≤274877906944)])
 |_,_=>none
theorem a79:aS Tryz.prog 197 C1:=by
 intro args h res h' o hnorm he ho
 unfold C1 at he
 split at he
 case h_2=>cases he
 rename_i k nl v n cap x
 simp only[Option.some.injEq,Prod.mk.injEq]at he
 obtain⟨rfl,rfl,rfl⟩:=he
 simp only[List.mem_cons,List.not_mem_nil,or_false,forall_eq_or_imp,forall_eq,decide_eq_true_eq]at ho
 have o1:=ho
 simp only[b8,AV.norm,bA,aF.norm,Con.size,List.cons.injEq,AV.c.injEq,AV.agg.injEq,aF.view.injEq,aL,true_and,and_true]at hnorm
 obtain⟨rfl,rfl,rfl⟩:=hnorm
 unfold snK snB
 cases h1:bet k 1 2 with
 |false=>exact DN (mo t69 (UT k v x) (by simp only[h1,o1,bS,rpS]))
 |true=>
  have hve:=nX v
  cases h2:aG v 4 with
  |false=>exact DN (mo t69 (UU k v x) (by simp only[h1,hve,h2,o1,bS,rpS]))
  |true=>
   cases h3:bet x 1 99 with
   |false=>exact DN (mo t69 (UV k v x) (by simp only[h1,hve,h2,h3,o1,bS,rpS]))
   |true=>
    obtain⟨hf,hl⟩:=xV h2
    have e:=UW k v x
    rw[sC h1]at e
    exact mo t69 e (by simp only[h1,hve,h2,h3,hf,hl,o1,bS,rpS];simp)
noncomputable def T70:List aZ:=[⟨197,[],nm C1⟩]++T69
theorem e70:a7 Tryz.prog T70:=by
 refine a7.append ?_ e69
 intro e he
 simp only[List.mem_cons,List.not_mem_nil,or_false]at he
 subst he;exact a79.ok
theorem t70:bK Tryz.prog (a9 T70):=aO e70
theorem a3Q (k:Int) (v:List Int):aE tt (a9 T70) ([]) 100 Tryz.f143 [.c (.int .i64 k),.c (.view none (.ints .i64 v) v.length 1 none)] [] [(0,true)]=
  some ⟨.tup [.agg [.int .i64 0,.nils,.nils,.nils,.bool false,.int .i64 0,.nils,.int .i64 0],.c (.bool false)],[],(decide (v.length≤274877906944)&&((!snB k v 1)&&true)),[]⟩:=by kernel_rfl
theorem a3R (k:Int) (v:List Int):aE tt (a9 T70) ([]) 100 Tryz.f143 [.c (.int .i64 k),.c (.view none (.ints .i64 v) v.length 1 none)] [] [(0,false)]=
  some ⟨.tup [.agg [.int .i64 (snK k v 1).k,.sl 0 0 (snK k v 1).a.length 1 none,.sl 1 0 (snK k v 1).b.length 1 none,.sl 2 0 (snK k v 1).c.length 1 none,.bool false,.int .i64 0,.sl 3 0 0 1 none,.int .i64 0],.c (.bool true)],[.live (.ints .i64 (snK k v 1).a),.live (.ints .i64 (snK k v 1).b),.live (.bools (snK k v 1).c),.live (.ints .i64 [])],(decide (v.length≤274877906944)&&((!!snB k v 1)&&true)),[]⟩:=by kernel_rfl
end
section
theorem sO {α:Type} {l l':List α} {d:α} (hl:l.length=l'.length) (h: ∀i,i<l.length→l.getD i d=l'.getD i d):l=l':=by
 apply List.ext_getElem? fun i=> ?_
 by_cases hi:i<l.length
 ·have:=h i hi
  rw[List.getD_eq_getElem?_getD,List.getD_eq_getElem?_getD,List.getElem?_eq_getElem hi,List.getElem?_eq_getElem (by omega)]at this
  rw[List.getElem?_eq_getElem hi,List.getElem?_eq_getElem (by omega)]
  simpa using this
 ·rw[List.getElem?_eq_none (by omega),List.getElem?_eq_none (by omega)]
variable {k : Int} {a b : List Int} {c : List Bool} {kd : Int} {d : List Int} {vs : Int}
end
section
def shR (x:PK) (i:Int):PK:=⟨x.k,x.a.set i.toNat ((iH x.kd x.d).getD i.toNat 0),x.b.set i.toNat x.vs,x.c.set i.toNat true,x.on,x.kd,x.d,x.vs⟩
theorem PK.offK {x:PK} (h:x.ok=true) (ho:x.on=false):HH x.k x.a x.b x.c x.kd x.d x.vs:=by
 unfold PK.ok at h;rw[ho]at h;exact fH.1 h
end
section
def BN:aM:=fun args h=>
 match args,h with
 |[.c (.int .i64 k),.c (.view _ (.ints .i64 v) n 1 _)],[]=>
  some (.tup [.agg (snK k v 1).cells,.c (.bool (snB k v 1))],[.live (.ints .i64 (snK k v 1).a),.live (.ints .i64 (snK k v 1).b),.live (.bools (snK k v 1).c),.live (.ints .i64 (snK k v 1).d)],[decide (v.length≤274877906944)])
 |_,_=>none
theorem m95:aS Tryz.prog 143 BN:=by
 intro args h res h' o hnorm he ho
 unfold BN at he
 split at he
 case h_2=>cases he
 rename_i k nl v n cap
 simp only[Option.some.injEq,Prod.mk.injEq]at he
 obtain⟨rfl,rfl,rfl⟩:=he
 simp only[List.mem_cons,List.not_mem_nil,or_false,forall_eq_or_imp,forall_eq,decide_eq_true_eq]at ho
 have o1:=ho
 simp only[b8,AV.norm,bA,aF.norm,Con.size,List.cons.injEq,AV.c.injEq,AV.agg.injEq,aF.view.injEq,aL,true_and,and_true]at hnorm
 obtain⟨rfl,rfl,rfl⟩:=hnorm
 have sp: ∀b,snB k v 1=b→snK k v 1=bif b then⟨k,lC k v,FO 1,FO true,false,0,[],0⟩else PK0:=fun b h=>by unfold snK;rw[h]
 cases h:snB k v 1 with
 |false=>
  rw[sp _ h]
  exact iR (mo t70 (a3Q k v) (by simp only[h,o1,bS,rpS]))
 |true=>
  have e:=a3R k v
  rw[sp _ h]at e⊢
  exact mo t70 e (by simp only[h,o1,bS,rpS])
theorem VZ (k:Int) (a b:List Int) (c:List Bool) (on:Bool) (kd:Int) (d:List Int) (vs:Int) (x:Int):aE tt (a9 T61) ([]) 100 Tryz.f138 [.agg [.int .i64 k,.view none (.ints .i64 a) a.length 1 none,.view none (.ints .i64 b) b.length 1 none,.view none (.bools c) c.length 1 none,.bool on,.int .i64 kd,.view none (.ints .i64 d) d.length 1 none,.int .i64 vs],.c (.int .i64 x)] [] []=
  some ⟨.agg [.int .i64 k,.sl 0 0 a.length 1 none,.sl 1 0 b.length 1 none,.sl 2 0 c.length 1 none,.bool on,.int .i64 kd,.sl 3 0 d.length 1 none,.int .i64 vs],[.live (.ints .i64 (a.set x.toNat ((cdL kd d).getD x.toNat 0))),.live (.ints .i64 (b.set x.toNat vs)),.live (.bools (c.set x.toNat true)),.live (.ints .i64 d)],(decide (a.length≤274877906944)&&(decide (b.length≤274877906944)&&(decide (c.length≤274877906944)&&(decide (d.length≤274877906944)&&(bet kd 1 2&&(decide (d.length=4)&&(aA d&&(decide (0≤x)&&(decide (x<8)&&(decide (x.toNat<(cdL kd d).length)&&(decide (0≤x)&&(decide (x<(↑a.length:Int))&&(decide (x.toNat<a.length)&&(decide (0≤x)&&(decide (x<(↑b.length:Int))&&(decide (x.toNat<b.length)&&(decide (0≤x)&&(decide (x<(↑c.length:Int))&&((decide (x.toNat<c.length))&&true))))))))))))))))))),[]⟩:=by kernel_rfl
def H1:aM:=fun args h=>
 match args,h with
 |[.agg [.int .i64 k,.view _ (.ints .i64 a) n1 1 _,.view _ (.ints .i64 b) n2 1 _,.view _ (.bools c) n3 1 _,.bool on,.int .i64 kd,.view _ (.ints .i64 d) n4 1 _,.int .i64 vs],.c (.int .i64 x)],[]=>
  some (.agg (shR ⟨k,a,b,c,on,kd,d,vs⟩ x).cells,[.live (.ints .i64 (shR ⟨k,a,b,c,on,kd,d,vs⟩ x).a),.live (.ints .i64 (shR ⟨k,a,b,c,on,kd,d,vs⟩ x).b),.live (.bools (shR ⟨k,a,b,c,on,kd,d,vs⟩ x).c),.live (.ints .i64 (shR ⟨k,a,b,c,on,kd,d,vs⟩ x).d)],[decide (a.length=8),decide (b.length=8),decide (c.length=8),bet kd 1 2,aG d 4,bet x 0 7])
 |_,_=>none
theorem m52:aS Tryz.prog 138 H1:=by
 intro args h res h' o hnorm he ho
 unfold H1 at he
 split at he
 case h_2=>cases he
 rename_i k nl1 a n1 cap1 nl2 b n2 cap2 nl3 c n3 cap3 on kd nl4 d n4 cap4 vs x
 simp only[Option.some.injEq,Prod.mk.injEq]at he
 obtain⟨rfl,rfl,rfl⟩:=he
 simp only[List.mem_cons,List.not_mem_nil,or_false,forall_eq_or_imp,forall_eq,decide_eq_true_eq]at ho
 obtain⟨o1,o2,o3,o4,o5,o6⟩:=ho
 simp only[b8,AV.norm,bA,aF.norm,Con.size,List.cons.injEq,AV.c.injEq,AV.agg.injEq,aF.view.injEq,aL,true_and,and_true]at hnorm
 obtain⟨⟨rfl,rfl,rfl⟩,⟨rfl,rfl,rfl⟩,⟨rfl,rfl,rfl⟩,rfl,rfl,rfl⟩:=hnorm
 have hx':=bN.1 o6
 obtain⟨hf,hd4⟩:=xV o5
 have hcd:(cdL kd d).length=8:=rfl
 have mm:=mo (f:=138) t61 (VZ k a b c on kd d vs x) (by simp only[o1,o2,o3,o4,hf,hd4,hcd,bS,rpS];omega)
 rw[sC o4,←r8 o5]at mm
 have e1:(a.set x.toNat ((iH kd d).getD x.toNat 0)).length=a.length:=List.length_set
 have e2:(b.set x.toNat vs).length=b.length:=List.length_set
 have e3:(c.set x.toNat true).length=c.length:=List.length_set
 show bE _ _ _ _ (.agg [.int .i64 k,.sl 0 0 (a.set x.toNat ((iH kd d).getD x.toNat 0)).length 1 none,.sl 1 0 (b.set x.toNat vs).length 1 none,.sl 2 0 (c.set x.toNat true).length 1 none,.bool on,.int .i64 kd,.sl 3 0 d.length 1 none,.int .i64 vs]) _
 rw[e1,e2,e3]
 exact mm
noncomputable def T71:List aZ:=[⟨143,[],nm BN⟩,⟨138,[],nm H1⟩]++T70
theorem e71:a7 Tryz.prog T71:=by
 refine a7.append ?_ e70
 intro e he
 simp only[List.mem_cons,List.not_mem_nil,or_false]at he
 rcases he with rfl|rfl
 ·exact m95.ok
 ·exact m52.ok
end
section
end
section
theorem q2 (p:Int):p+2+4=p+6:=by omega
end
section
def PK.vcells (x:PK):List aF:=[.int .i64 x.k,.view none (.ints .i64 x.a) x.a.length 1 none,.view none (.ints .i64 x.b) x.b.length 1 none,.view none (.bools x.c) x.c.length 1 none,.bool x.on,.int .i64 x.kd,.view none (.ints .i64 x.d) x.d.length 1 none,.int .i64 x.vs]
noncomputable def T72:List aZ:=[]++T71
theorem e72:a7 Tryz.prog T72:=by
 refine a7.append ?_ e71
 intro e he
 cases he
end
section
def PK.sz (x:PK):Prop:=x.a.length=8∧x.b.length=8∧x.c.length=8∧x.d.length≤4
end
section
theorem PH {P:Program} {f:FuncId} {args:List AV} {x:PK} (hm:bE P f args [] (.agg x.cells) [.live (.ints .i64 x.a),.live (.ints .i64 x.b),.live (.bools x.c),.live (.ints .i64 x.d)]):bE P f args [] (.agg x.vcells) []:=
 hm.views (o:=[decide (x.a.length=x.a.length),decide (x.b.length=x.b.length),decide (x.c.length=x.c.length),decide (x.d.length=x.d.length)]) rfl (by simp)
def C0:aM:=fun args h=>
 match args,h with
 |[.agg [.int .i64 k,.view _ (.ints .i64 a) n1 1 _,.view _ (.ints .i64 b) n2 1 _,.view _ (.bools c) n3 1 _,.bool on,.int .i64 kd,.view _ (.ints .i64 d) n4 1 _,.int .i64 vs],.c (.int .i64 x)],[]=>
  some (.agg (shR ⟨k,a,b,c,on,kd,d,vs⟩ x).vcells,[],[decide (a.length=8),decide (b.length=8),decide (c.length=8),bet kd 1 2,aG d 4,bet x 0 7])
 |_,_=>none
theorem a8G:aS Tryz.prog 138 C0:=by
 intro args h res h' o hnorm he ho
 unfold C0 at he
 split at he
 case h_2=>cases he
 rename_i k nl1 a n1 cap1 nl2 b n2 cap2 nl3 c n3 cap3 on kd nl4 d n4 cap4 vs x
 simp only[Option.some.injEq,Prod.mk.injEq]at he
 obtain⟨rfl,rfl,rfl⟩:=he
 simp only[List.mem_cons,List.not_mem_nil,or_false,forall_eq_or_imp,forall_eq,decide_eq_true_eq]at ho
 obtain⟨o1,o2,o3,o4,o5,o6⟩:=ho
 exact PH (m52 _ _ _ _ _ hnorm rfl (by simp[o1,o2,o3,o4,o5,o6]))
def rS:aM:=fun args h=>
 match args,h with
 |[.agg [.int .i64 k,.view _ (.ints .i64 a) n1 1 _,.view _ (.ints .i64 b) n2 1 _,.view _ (.bools c) n3 1 _,.bool on,.int .i64 kd,.view _ (.ints .i64 d) n4 1 _,.int .i64 vs]],[]=>
  some (.agg (iL ⟨k,a,b,c,on,kd,d,vs⟩).vcells,[],[decide (a.length≤274877906944),decide (d.length≤274877906944)])
 |_,_=>none
theorem a8E:aS Tryz.prog 135 rS:=by
 intro args h res h' o hnorm he ho
 unfold rS at he
 split at he
 case h_2=>cases he
 rename_i k nl1 a n1 cap1 nl2 b n2 cap2 nl3 c n3 cap3 on kd nl4 d n4 cap4 vs
 simp only[Option.some.injEq,Prod.mk.injEq]at he
 obtain⟨rfl,rfl,rfl⟩:=he
 simp only[List.mem_cons,List.not_mem_nil,or_false,forall_eq_or_imp,forall_eq,decide_eq_true_eq]at ho
 obtain⟨o1,o2⟩:=ho
 exact PH (m18 _ _ _ _ _ hnorm rfl (by simp[o1,o2]))
noncomputable def T73:List aZ:=[⟨138,[],nm C0⟩,⟨135,[],nm rS⟩]++T72
theorem e73:a7 Tryz.prog T73:=by
 refine a7.append ?_ e72
 intro e he
 simp only[List.mem_cons,List.not_mem_nil,or_false]at he
 rcases he with rfl|rfl
 ·exact a8G.ok
 ·exact a8E.ok
end
section
noncomputable def T74:List aZ:=[]++T73
theorem e74:a7 Tryz.prog T74:=by
 refine a7.append ?_ e73
 intro e he
 cases he
end
section
noncomputable def T75:List aZ:=[]++T74
theorem e75:a7 Tryz.prog T75:=by
 refine a7.append ?_ e74
 intro e he
 cases he
noncomputable def T76:List aZ:=[]++T75
theorem e76:a7 Tryz.prog T76:=by
 refine a7.append ?_ e75
 intro e he
 cases he
end
section
noncomputable def T77:List aZ:=[]++T76
theorem e77:a7 Tryz.prog T77:=by
 refine a7.append ?_ e76
 intro e he
 cases he
theorem t77:bK Tryz.prog (a9 T77):=aO e77
end
section
open Go.RowKit
theorem a8T (W:World):Mem (fun _=>False) W (b9 noIds) [] noIds W:=
 ⟨fun id=>by
  have:Heap.get ([]:List aU) id=.unborn:=by simp[Heap.get]
  rw[this];exact trivial,fun i j b h _=>(by cases h),fun id b h=>(by cases h),rfl,rfl,rfl,Nat.le_refl _,fun _ _ _=>rfl,fun b h=>h.elim⟩
theorem own:ownKnob Tryz.prog.godebug=none:=by kernel_rfl
theorem a5H:laidOutB Tryz.prog=true:=by kernel_rfl
end
section
def vwM (F:aM):aM:=fun args h=>
 match h with
 |[]=>(match F args []with
  |some (res,out,obl)=>(match vwA (Heap.get out) res with
   |some (res',o)=>some (res',[],obl++o)
   |none=>none)
  |none=>none)
 |_=>none
theorem aS.vw {P:Program} {f:FuncId} {F:aM} (hF:aS P f F):aS P f (vwM F):=by
 intro args h res h' o hn he ho
 unfold vwM at he
 split at he
 ·split at he
  ·rename_i r out obl hf
   split at he
   ·rename_i r' o2 hv
    simp only[Option.some.injEq,Prod.mk.injEq]at he
    obtain⟨rfl,rfl,rfl⟩:=he
    exact(hF _ _ _ _ _ hn hf fun b hb=>ho b (by simp[hb])).views hv fun b hb=>ho b (by simp[hb])
   ·cases he
  ·cases he
 ·cases he
end
section
theorem a9G {α:Type} {d:α} {n:Nat} {st:Nat→List α→List α} {a:List α} {g:Nat→α} (ha:a.length=n) (hs: ∀i c,st i c=c.set i (g i)):(bH st n 0 a).length=n∧ ∀i,i<n→(bH st n 0 a).getD i d=g i:=by
 have key:=aY (step:=st) (fun m c=>c.length=n∧ ∀i,i<m→c.getD i d=g i) n a ⟨ha,fun i hi=>by omega⟩ fun m c hm ⟨h1,h2⟩=>⟨by rw[hs,List.length_set];exact h1,fun i hi=>by
  rw[hs,List.getD_eq_getElem?_getD,List.getElem?_set]
  by_cases e:m=i
  ·subst e;rw[if_pos rfl,if_pos (by omega)];rfl
  ·rw[if_neg e,←List.getD_eq_getElem?_getD];exact h2 i (by omega)⟩
 exact key
theorem aA9 {α:Type} {d:α} {st:Nat→List α→List α} {a b:List α} (ha:b.length=a.length) (hs: ∀i c,st i c=c.set i (a.getD i d)):bH st a.length 0 b=a:=by
 obtain⟨h1,h2⟩:=a9G (d:=d) ha hs
 exact sO (d:=d) h1 fun i hi=>h2 i (by omega)
noncomputable abbrev fTI:=Tryz.f245
noncomputable def a9A (a c:List Int) (i:Int):St:=aR fTI.ntmps [(0,.c (.view none (.ints .i64 a) a.length 1 none)),(3,.c (.sl 0 0 a.length 1 none)),(4,.c (.int .i64 i))] [.live (.ints .i64 c)]
noncomputable def aA7 (n:Nat) (c:List Int):St:=aR fTI.ntmps [(3,.c (.sl 0 0 n 1 none))] [.live (.ints .i64 c)]
theorem aAT (a c:List Int) (i:Int):aC 0 (a6 fTI 0) (a8 fTI 0) (aD tt (a9 T77) ([]) 0 100 (a5 0 (a0 fTI)) (a9A a c i) [(0,true)])=
  some (.normal,(decide (i<(↑a.length:Int))&&(decide (0≤i)&&(decide (i<(↑a.length:Int))&&(decide (i.toNat<a.length)&&(decide (0≤i)&&(decide (i<(↑a.length:Int))&&((decide (i.toNat<c.length))&&true))))))),[],a9A a (c.set i.toNat (a.getD i.toNat 0)) (IntKind.i64.wrap (i+1))):=by kernel_rfl
theorem aAU (a c:List Int) (i:Int):aC 0 (a6 fTI 0) (a8 fTI 0) (aD tt (a9 T77) ([]) 0 100 (a5 0 (a0 fTI)) (a9A a c i) [(0,false)])=
  some (.exit 0,((!decide (i<(↑a.length:Int)))&&true),[],aA7 a.length c):=by kernel_rfl
theorem aB2 (a:List Int):aE tt (a9 T77) ([(0,⟨a6 fTI 0,a9A a (List.replicate a.length 0) 0,.normal,aA7 a.length a⟩)]) 100 fTI [.c (.view none (.ints .i64 a) a.length 1 none)] [] []=
  some ⟨.c (.sl 0 0 a.length 1 none),[.live (.ints .i64 a)],(decide ((↑a.length:Int)≤(↑a.length:Int))&&((decide ((↑a.length:Int)≤274877906944))&&true)),[a9A a (List.replicate a.length 0) 0=a9A a (List.replicate a.length 0) 0]⟩:=by kernel_rfl
def cpI (a:List Int) (i:Nat) (c:List Int):List Int:=c.set i (a.getD i 0)
theorem aBX (a:List Int) (hn:a.length≤274877906944):
  aN none Tryz.prog 0 (.block 0 (.loop (a5 0 (a0 fTI)))) (a9A a (List.replicate a.length 0) 0) fun e t=>e=.normal∧t=aA7 a.length a:=by
 have key:=aN.count (ro:=none) hT t77 bF (m:=0) (id:=0) (body:=a5 0 (a0 fTI)) (β:=List Int) a.length (fun _ c=>c.length=a.length) (fun i c=>a9A a c i) (fun c=>aA7 a.length c) (cpI a) (a6 fTI 0) (a8 fTI 0) (fun _ _=>[]) (fun _ _ _ _=>aK.nil) (fun i c hi hc=>⟨by unfold cpI;rw[List.length_set];exact hc, ?_⟩) (fun c _=>⟨_,_,⟨_,_,aAU a c a.length,by simp,by simp⟩⟩) (List.replicate a.length 0) (by simp)
 ·have er:bH (cpI a) a.length 0 (List.replicate a.length 0)=a:=aA9 (d:=0) (by simp) (fun _ _=>rfl)
  rw[er]at key
  exact key
 ·have e:=aAT a c i
  rw[aB (by omega) (by omega),Int.toNat_natCast]at e
  refine⟨_,_,⟨_,_,e, ?_,by simp⟩⟩
  simp only[hc,bS,rpS]
  omega
def a9V:aM:=fun args h=>
 match args,h with
 |[.c (.view _ (.ints .i64 a) n1 1 _)],[]=>
  some (.c (.sl 0 0 a.length 1 none),[.live (.ints .i64 a)],[decide (a.length≤274877906944)])
 |_,_=>none
theorem aC5:aS Tryz.prog 245 a9V:=by
 intro args h res h' o hnorm he ho
 unfold a9V at he
 split at he
 case h_2=>cases he
 rename_i nl a n1 cap
 simp only[Option.some.injEq,Prod.mk.injEq]at he
 obtain⟨rfl,rfl,rfl⟩:=he
 simp only[List.mem_cons,List.not_mem_nil,or_false,forall_eq_or_imp,forall_eq,decide_eq_true_eq]at ho
 have o1:=ho
 simp only[b8,AV.norm,bA,aF.norm,Con.size,List.cons.injEq,AV.c.injEq,AV.agg.injEq,aF.view.injEq,aL,true_and,and_true]at hnorm
 obtain⟨rfl,rfl,rfl⟩:=hnorm
 exact mo (fn:=fTI) t77 (aB2 a) (by simp;omega) (hlc:=(fun cc hcc=>aK.cons (c:=cc) (by cases hcc;kernel_rfl) (by cases hcc;exact aBX a o1) aK.nil))
noncomputable abbrev fMI:=Tryz.f172
noncomputable def a98 (n:Nat) (k:Int) (c:List Int) (i:Int):St:=aR fMI.ntmps [(0,.c (.sl 0 0 n 1 none)),(1,.c (.int .i64 k)),(5,.c (.int .i64 i))] [.live (.ints .i64 c)]
noncomputable def aA5 (k:Int) (c:List Int):St:=aR fMI.ntmps [(1,.c (.int .i64 k))] [.live (.ints .i64 c)]
theorem aAP (n:Nat) (k:Int) (c:List Int) (i:Int):aC 1 (a6 fMI 0) (a8 fMI 0) (aD tt (a9 T77) ([]) 1 100 (a5 0 (a0 fMI)) (a98 n k c i) [(0,true)])=
  some (.normal,(decide (i<(↑n:Int))&&(decide (0≤i)&&(decide (i<(↑n:Int))&&((decide (i.toNat<c.length))&&true)))),[],a98 n (IntKind.i64.wrap (k+1)) (c.set i.toNat k) (IntKind.i64.wrap (i+1))):=by kernel_rfl
theorem aAQ (n:Nat) (k:Int) (c:List Int) (i:Int):aC 1 (a6 fMI 0) (a8 fMI 0) (aD tt (a9 T77) ([]) 1 100 (a5 0 (a0 fMI)) (a98 n k c i) [(0,false)])=
  some (.exit 0,((!decide (i<(↑n:Int)))&&true),[],aA5 k c):=by kernel_rfl
theorem aB0 (a c:List Int) (k k':Int):aE tt (a9 T77) ([(0,⟨a6 fMI 0,a98 a.length k a 0,.normal,aA5 k' c⟩)]) 100 fMI [.c (.sl 0 0 a.length 1 none),.c (.int .i64 k)] [.live (.ints .i64 a)] []=
  some ⟨.c (.int .i64 k'),[.live (.ints .i64 c)],true,[a98 a.length k a 0=a98 a.length k a 0]⟩:=by kernel_rfl
def aAD (k:Int) (i:Nat) (c:List Int):List Int:=c.set i (k+(i:Int))
def a9C (k:Int) (a:List Int):List Int:=bH (aAD k) a.length 0 a
theorem a91 (k:Int) (a:List Int):(a9C k a).length=a.length∧ ∀i,i<a.length→(a9C k a).getD i 0=(k+(i:Int)):=a9G rfl fun _ _=>rfl
theorem aBV (a:List Int) (k:Int) (hn:a.length≤274877906944) (hk:0≤k) (hk2:k≤4611686018427387904):
  aN none Tryz.prog 1 (.block 0 (.loop (a5 0 (a0 fMI)))) (a98 a.length k a 0) fun e t=>e=.normal∧t=aA5 (k+(a.length:Int)) (a9C k a):=by
 have key:=aN.count (ro:=none) hT t77 bF (m:=1) (id:=0) (body:=a5 0 (a0 fMI)) (β:=List Int) a.length (fun _ c=>c.length=a.length) (fun i c=>a98 a.length (k+(i:Int)) c i) (fun c=>aA5 (k+(a.length:Int)) c) (aAD k) (a6 fMI 0) (a8 fMI 0) (fun _ _=>[]) (fun _ _ _ _=>aK.nil) (fun i c hi hc=>⟨by unfold aAD;rw[List.length_set];exact hc, ?_⟩) (fun c _=>⟨_,_,⟨_,_,aAQ a.length (k+(a.length:Int)) c a.length,by simp,by simp⟩⟩) a rfl
 ·unfold a9C;simpa using key
 ·have e:=aAP a.length (k+(i:Int)) c i
  rw[aB (i:=(i:Int)+1) (by omega) (by omega),aB (i:=k+(i:Int)+1) (by omega) (by omega),Int.toNat_natCast,show k+(i:Int)+1=k+((i+1:Nat):Int)from by omega]at e
  refine⟨_,_,⟨_,_,e, ?_,by simp⟩⟩
  simp only[hc,bS,rpS]
  first|omega|(simp;omega)
def a9P:aM:=fun args h=>
 match args,h with
 |[.c (.sl 0 0 n 1 none),.c (.int .i64 k)],[.live (.ints .i64 a)]=>
  some (.c (.int .i64 (k+(a.length:Int))),[.live (.ints .i64 (a9C k a))],[decide (a.length≤274877906944),decide (n=a.length),decide (0≤k),decide (k≤4611686018427387904)])
 |_,_=>none
theorem aC3:aQ Tryz.prog 172 a9P:=by
 intro args h res h' o he ho
 unfold a9P at he
 split at he
 case h_2=>cases he
 rename_i n k a
 simp only[Option.some.injEq,Prod.mk.injEq]at he
 obtain⟨rfl,rfl,rfl⟩:=he
 simp only[List.mem_cons,List.not_mem_nil,or_false,forall_eq_or_imp,forall_eq,decide_eq_true_eq]at ho
 obtain⟨o1,o2,o3,o4⟩:=ho
 subst o2
 exact mo (fn:=fMI) t77 (aB0 a (a9C k a) k (k+(a.length:Int))) (by simp) (hlc:=(fun cc hcc=>aK.cons (c:=cc) (by cases hcc;kernel_rfl) (by cases hcc;exact aBV a k o1 o3 o4) aK.nil))
noncomputable abbrev fHI:=Tryz.f185
noncomputable def a96 (a:List Int) (k i:Int):St:=aR fHI.ntmps [(0,.c (.view none (.ints .i64 a) a.length 1 none)),(1,.c (.int .i64 k)),(5,.c (.int .i64 i))] []
noncomputable def aA3 (k:Int):St:=aR fHI.ntmps [(1,.c (.int .i64 k))] []
theorem aAL (a:List Int) (k i:Int):aC 0 (a6 fHI 0) (a8 fHI 0) (aD tt (a9 T77) ([]) 0 100 (a5 0 (a0 fHI)) (a96 a k i) [(0,true),(0,false)])=
  some (.normal,(decide (i<(↑a.length:Int))&&(decide (0≤i)&&(decide (i<(↑a.length:Int))&&(decide (i.toNat<a.length)&&((!a.getD i.toNat 0 !=k)&&true))))),[],a96 a (IntKind.i64.wrap (k+1)) (IntKind.i64.wrap (i+1))):=by kernel_rfl
theorem aAM (a:List Int) (k i:Int):aC 0 (a6 fHI 0) (a8 fHI 0) (aD tt (a9 T77) ([]) 0 100 (a5 0 (a0 fHI)) (a96 a k i) [(0,false)])=
  some (.exit 0,((!decide (i<(↑a.length:Int)))&&true),[],aA3 k):=by kernel_rfl
theorem aAY (a:List Int) (k k':Int):aE tt (a9 T77) ([(0,⟨a6 fHI 0,a96 a k 0,.normal,aA3 k'⟩)]) 100 fHI [.c (.view none (.ints .i64 a) a.length 1 none),.c (.int .i64 k)] [] []=
  some ⟨.c (.int .i64 k'),[],true,[a96 a k 0=a96 a k 0]⟩:=by kernel_rfl
def hdI (k:Int) (a:List Int):Bool:=cH (fun i=>a.getD i 0==(k+(i:Int))) a.length 0
theorem aBP (k:Int) (a:List Int):hdI k (a9C k a)=true:=by
 obtain⟨h1,h2⟩:=a91 k a
 unfold hdI
 rw[cC]
 intro i _ hi
 rw[h2 i (by omega),beq_self_eq_true]
theorem aBT (a:List Int) (k:Int) (hn:a.length≤274877906944) (hk:0≤k) (hk2:k≤4611686018427387904) (hh:hdI k a=true):
  aN none Tryz.prog 0 (.block 0 (.loop (a5 0 (a0 fHI)))) (a96 a k 0) fun e t=>e=.normal∧t=aA3 (k+(a.length:Int)):=by
 have hh:=cC.1 hh
 have key:=aN.count (ro:=none) hT t77 bF (m:=0) (id:=0) (body:=a5 0 (a0 fHI)) (β:=Unit) a.length (fun _ _=>True) (fun i _=>a96 a (k+(i:Int)) i) (fun _=>aA3 (k+(a.length:Int))) (fun _ _=>()) (a6 fHI 0) (a8 fHI 0) (fun _ _=>[]) (fun _ _ _ _=>aK.nil) (fun i _ hi _=>⟨trivial, ?_⟩) (fun _ _=>⟨_,_,⟨_,_,aAM a (k+(a.length:Int)) a.length,by simp,by simp⟩⟩) () trivial
 ·simpa using key
 ·have hv:=hh i (by omega) (by omega)
  have hv:=beq_iff_eq.1 hv
  have e:=aAL a (k+(i:Int)) i
  rw[aB (i:=(i:Int)+1) (by omega) (by omega),aB (i:=k+(i:Int)+1) (by omega) (by omega),Int.toNat_natCast,show k+(i:Int)+1=k+((i+1:Nat):Int)from by omega]at e
  refine⟨_,_,⟨_,_,e, ?_,by simp⟩⟩
  simp only[hv,bne_self_eq_false,beq_self_eq_true,bS,rpS]
  first|omega|(simp;omega)
def a9N:aM:=fun args h=>
 match args,h with
 |[.c (.view _ (.ints .i64 a) n1 1 _),.c (.int .i64 k)],[]=>
  some (.c (.int .i64 (k+(a.length:Int))),[],[decide (a.length≤274877906944),decide (0≤k),decide (k≤4611686018427387904),hdI k a])
 |_,_=>none
theorem aC1:aS Tryz.prog 185 a9N:=by
 intro args h res h' o hnorm he ho
 unfold a9N at he
 split at he
 case h_2=>cases he
 rename_i nl a n1 cap k
 simp only[Option.some.injEq,Prod.mk.injEq]at he
 obtain⟨rfl,rfl,rfl⟩:=he
 simp only[List.mem_cons,List.not_mem_nil,or_false,forall_eq_or_imp,forall_eq,decide_eq_true_eq]at ho
 obtain⟨o1,o2,o3,o4⟩:=ho
 simp only[b8,AV.norm,bA,aF.norm,Con.size,List.cons.injEq,AV.c.injEq,AV.agg.injEq,aF.view.injEq,aL,true_and,and_true]at hnorm
 obtain⟨rfl,rfl,rfl⟩:=hnorm
 exact mo (fn:=fHI) t77 (aAY a k (k+(a.length:Int))) (by simp) (hlc:=(fun cc hcc=>aK.cons (c:=cc) (by cases hcc;kernel_rfl) (by cases hcc;exact aBT a k o1 o2 o3 o4) aK.nil))
noncomputable abbrev fEI:=Tryz.f247
noncomputable def a93 (a:List Int) (i:Int):St:=aR fEI.ntmps [(0,.c (.view none (.ints .i64 a) a.length 1 none)),(1,.c (.view none (.ints .i64 a) a.length 1 none)),(5,.c (.int .i64 i))] []
noncomputable def a9X:St:=aR fEI.ntmps [] []
theorem aAH (a:List Int) (i:Int):aC 0 (a6 fEI 0) (a8 fEI 0) (aD tt (a9 T77) ([]) 0 100 (a5 0 (a0 fEI)) (a93 a i) [(0,true),(0,false)])=
  some (.normal,(decide (i<(↑a.length:Int))&&(decide (0≤i)&&(decide (i<(↑a.length:Int))&&(decide (i.toNat<a.length)&&(decide (0≤i)&&(decide (i<(↑a.length:Int))&&(decide (i.toNat<a.length)&&((!a.getD i.toNat 0 !=a.getD i.toNat 0)&&true)))))))),[],a93 a (IntKind.i64.wrap (i+1))):=by kernel_rfl
theorem aAI (a:List Int) (i:Int):aC 0 (a6 fEI 0) (a8 fEI 0) (aD tt (a9 T77) ([]) 0 100 (a5 0 (a0 fEI)) (a93 a i) [(0,false)])=
  some (.exit 0,((!decide (i<(↑a.length:Int)))&&true),[],a9X):=by kernel_rfl
theorem aCC (a:List Int):aE tt (a9 T77) ([(0,⟨a6 fEI 0,a93 a 0,.normal,a9X⟩)]) 100 fEI [.c (.view none (.ints .i64 a) a.length 1 none),.c (.view none (.ints .i64 a) a.length 1 none)] [] [(0,true)]=
  some ⟨.c (.bool false),[],(((↑a.length:Int)!=(↑a.length:Int))&&true),[]⟩:=by kernel_rfl
theorem aAW (a:List Int):aE tt (a9 T77) ([(0,⟨a6 fEI 0,a93 a 0,.normal,a9X⟩)]) 100 fEI [.c (.view none (.ints .i64 a) a.length 1 none),.c (.view none (.ints .i64 a) a.length 1 none)] [] [(0,false)]=
  some ⟨.c (.bool true),[],((!(↑a.length:Int)!=(↑a.length:Int))&&true),[a93 a 0=a93 a 0]⟩:=by kernel_rfl
theorem aBR (a:List Int) (hn:a.length≤274877906944):
  aN none Tryz.prog 0 (.block 0 (.loop (a5 0 (a0 fEI)))) (a93 a 0) fun e t=>e=.normal∧t=a9X:=by
 refine aN.count (ro:=none) hT t77 bF (m:=0) (id:=0) (body:=a5 0 (a0 fEI)) (β:=Unit) a.length (fun _ _=>True) (fun i _=>a93 a i) (fun _=>a9X) (fun _ _=>()) (a6 fEI 0) (a8 fEI 0) (fun _ _=>[]) (fun _ _ _ _=>aK.nil) (fun i _ hi _=>⟨trivial, ?_⟩) (fun _ _=>⟨_,_,⟨_,_,aAI a a.length,by simp,by simp⟩⟩) () trivial
 have e:=aAH a i
 rw[aB (i:=(i:Int)+1) (by omega) (by omega),Int.toNat_natCast]at e
 refine⟨_,_,⟨_,_,e, ?_,by simp⟩⟩
 simp only[bne_self_eq_false,beq_self_eq_true,bS,rpS]
 first|omega|(simp;omega)
def a9L:aM:=fun args h=>
 match args,h with
 |[.c (.view _ (.ints .i64 a) n1 1 _),.c (.view _ (.ints .i64 b) n2 1 _)],[]=>
  some (.c (.bool true),[],[decide (a.length≤274877906944),decide (a=b)])
 |_,_=>none
theorem aBZ:aS Tryz.prog 247 a9L:=by
 intro args h res h' o hnorm he ho
 unfold a9L at he
 split at he
 case h_2=>cases he
 rename_i nl a n1 cap nl2 b n2 cap2
 simp only[Option.some.injEq,Prod.mk.injEq]at he
 obtain⟨rfl,rfl,rfl⟩:=he
 simp only[List.mem_cons,List.not_mem_nil,or_false,forall_eq_or_imp,forall_eq,decide_eq_true_eq]at ho
 obtain⟨o1,o2⟩:=ho
 simp only[b8,AV.norm,bA,aF.norm,Con.size,List.cons.injEq,AV.c.injEq,AV.agg.injEq,aF.view.injEq,aL,true_and,and_true]at hnorm
 obtain⟨⟨rfl,rfl,rfl⟩,rfl,rfl,rfl⟩:=hnorm
 subst o2
 exact mo (fn:=fEI) t77 (aAW a) (by simp) (hlc:=(fun cc hcc=>aK.cons (c:=cc) (by cases hcc;kernel_rfl) (by cases hcc;exact aBR a o1) aK.nil))
theorem aB5 (a:List Int) (l:Int):aE tt (a9 T77) ([]) 100 Tryz.f237 [.c (.view none (.ints .i64 a) a.length 1 none),.c (.int .i64 l)] [] [(0,true)]=
  some ⟨.c (.int .i64 (-1)),[],((decide (IntKind.i64.wrap (l-(↑a.length:Int))<0))&&true),[]⟩:=by kernel_rfl
theorem aB6 (a:List Int) (l:Int):aE tt (a9 T77) ([]) 100 Tryz.f237 [.c (.view none (.ints .i64 a) a.length 1 none),.c (.int .i64 l)] [] [(0,false)]=
  some ⟨.c (.int .i64 (IntKind.i64.wrap (l-(↑a.length:Int)))),[],((!decide (IntKind.i64.wrap (l-(↑a.length:Int))<0))&&true),[]⟩:=by kernel_rfl
def szF (l:Int) (n:Nat):Int:=bif decide (l-(n:Int)<0)then -1 else l-(n:Int)
def a9R:aM:=fun args h=>
 match args,h with
 |[.c (.view _ (.ints .i64 a) n1 1 _),.c (.int .i64 l)],[]=>
  some (.c (.int .i64 (szF l a.length)),[],[decide (a.length≤9223372036854775807),decide (0≤l),decide (l≤1048576)])
 |_,_=>none
theorem aC7:aS Tryz.prog 237 a9R:=by
 intro args h res h' o hnorm he ho
 unfold a9R at he
 split at he
 case h_2=>cases he
 rename_i nl a n1 cap l
 simp only[Option.some.injEq,Prod.mk.injEq]at he
 obtain⟨rfl,rfl,rfl⟩:=he
 simp only[List.mem_cons,List.not_mem_nil,or_false,forall_eq_or_imp,forall_eq,decide_eq_true_eq]at ho
 obtain⟨o1,o2,o3⟩:=ho
 simp only[b8,AV.norm,bA,aF.norm,Con.size,List.cons.injEq,AV.c.injEq,AV.agg.injEq,aF.view.injEq,aL,true_and,and_true]at hnorm
 obtain⟨rfl,rfl,rfl⟩:=hnorm
 unfold szF
 have w:IntKind.i64.wrap (l-(a.length:Int))=l-(a.length:Int):=by
  simp only[IntKind.wrap,IntKind.bits,IntKind.signed];simp;omega
 cases c:decide (l-(a.length:Int)<0)with
 |true=>exact mo t77 (aB5 a l) (by rw[w,c];rfl)
 |false=>
  have e:=aB6 a l
  rw[w]at e
  exact mo t77 e (by rw[c];rfl)
noncomputable abbrev fTB:=Tryz.f67
noncomputable def a99 (a c:List Bool) (i:Int):St:=aR fTB.ntmps [(0,.c (.view none (.bools a) a.length 1 none)),(3,.c (.sl 0 0 a.length 1 none)),(4,.c (.int .i64 i))] [.live (.bools c)]
noncomputable def aA6 (n:Nat) (c:List Bool):St:=aR fTB.ntmps [(3,.c (.sl 0 0 n 1 none))] [.live (.bools c)]
theorem aAR (a c:List Bool) (i:Int):aC 0 (a6 fTB 0) (a8 fTB 0) (aD tt (a9 T77) ([]) 0 100 (a5 0 (a0 fTB)) (a99 a c i) [(0,true)])=
  some (.normal,(decide (i<(↑a.length:Int))&&(decide (0≤i)&&(decide (i<(↑a.length:Int))&&(decide (i.toNat<a.length)&&(decide (0≤i)&&(decide (i<(↑a.length:Int))&&((decide (i.toNat<c.length))&&true))))))),[],a99 a (c.set i.toNat (a.getD i.toNat false)) (IntKind.i64.wrap (i+1))):=by kernel_rfl
theorem aAS (a c:List Bool) (i:Int):aC 0 (a6 fTB 0) (a8 fTB 0) (aD tt (a9 T77) ([]) 0 100 (a5 0 (a0 fTB)) (a99 a c i) [(0,false)])=
  some (.exit 0,((!decide (i<(↑a.length:Int)))&&true),[],aA6 a.length c):=by kernel_rfl
theorem aB1 (a:List Bool):aE tt (a9 T77) ([(0,⟨a6 fTB 0,a99 a (List.replicate a.length false) 0,.normal,aA6 a.length a⟩)]) 100 fTB [.c (.view none (.bools a) a.length 1 none)] [] []=
  some ⟨.c (.sl 0 0 a.length 1 none),[.live (.bools a)],(decide ((↑a.length:Int)≤(↑a.length:Int))&&((decide ((↑a.length:Int)≤274877906944))&&true)),[a99 a (List.replicate a.length false) 0=a99 a (List.replicate a.length false) 0]⟩:=by kernel_rfl
def cpB (a:List Bool) (i:Nat) (c:List Bool):List Bool:=c.set i (a.getD i false)
theorem aBW (a:List Bool) (hn:a.length≤274877906944):
  aN none Tryz.prog 0 (.block 0 (.loop (a5 0 (a0 fTB)))) (a99 a (List.replicate a.length false) 0) fun e t=>e=.normal∧t=aA6 a.length a:=by
 have key:=aN.count (ro:=none) hT t77 bF (m:=0) (id:=0) (body:=a5 0 (a0 fTB)) (β:=List Bool) a.length (fun _ c=>c.length=a.length) (fun i c=>a99 a c i) (fun c=>aA6 a.length c) (cpB a) (a6 fTB 0) (a8 fTB 0) (fun _ _=>[]) (fun _ _ _ _=>aK.nil) (fun i c hi hc=>⟨by unfold cpB;rw[List.length_set];exact hc, ?_⟩) (fun c _=>⟨_,_,⟨_,_,aAS a c a.length,by simp,by simp⟩⟩) (List.replicate a.length false) (by simp)
 ·have er:bH (cpB a) a.length 0 (List.replicate a.length false)=a:=aA9 (d:=false) (by simp) (fun _ _=>rfl)
  rw[er]at key
  exact key
 ·have e:=aAR a c i
  rw[aB (by omega) (by omega),Int.toNat_natCast]at e
  refine⟨_,_,⟨_,_,e, ?_,by simp⟩⟩
  simp only[hc,bS,rpS]
  omega
def a9U:aM:=fun args h=>
 match args,h with
 |[.c (.view _ (.bools a) n1 1 _)],[]=>
  some (.c (.sl 0 0 a.length 1 none),[.live (.bools a)],[decide (a.length≤274877906944)])
 |_,_=>none
theorem aC4:aS Tryz.prog 67 a9U:=by
 intro args h res h' o hnorm he ho
 unfold a9U at he
 split at he
 case h_2=>cases he
 rename_i nl a n1 cap
 simp only[Option.some.injEq,Prod.mk.injEq]at he
 obtain⟨rfl,rfl,rfl⟩:=he
 simp only[List.mem_cons,List.not_mem_nil,or_false,forall_eq_or_imp,forall_eq,decide_eq_true_eq]at ho
 have o1:=ho
 simp only[b8,AV.norm,bA,aF.norm,Con.size,List.cons.injEq,AV.c.injEq,AV.agg.injEq,aF.view.injEq,aL,true_and,and_true]at hnorm
 obtain⟨rfl,rfl,rfl⟩:=hnorm
 exact mo (fn:=fTB) t77 (aB1 a) (by simp;omega) (hlc:=(fun cc hcc=>aK.cons (c:=cc) (by cases hcc;kernel_rfl) (by cases hcc;exact aBW a o1) aK.nil))
noncomputable abbrev fMB:=Tryz.f103
noncomputable def a97 (n:Nat) (k:Int) (c:List Bool) (i:Int):St:=aR fMB.ntmps [(0,.c (.sl 0 0 n 1 none)),(1,.c (.int .i64 k)),(5,.c (.int .i64 i))] [.live (.bools c)]
noncomputable def aA4 (k:Int) (c:List Bool):St:=aR fMB.ntmps [(1,.c (.int .i64 k))] [.live (.bools c)]
theorem aAN (n:Nat) (k:Int) (c:List Bool) (i:Int):aC 1 (a6 fMB 0) (a8 fMB 0) (aD tt (a9 T77) ([]) 1 100 (a5 0 (a0 fMB)) (a97 n k c i) [(0,true)])=
  some (.normal,(decide (i<(↑n:Int))&&(decide (0≤i)&&(decide (i<(↑n:Int))&&((decide (i.toNat<c.length))&&true)))),[],a97 n (IntKind.i64.wrap (k+1)) (c.set i.toNat (k.tmod 3==0)) (IntKind.i64.wrap (i+1))):=by kernel_rfl
theorem aAO (n:Nat) (k:Int) (c:List Bool) (i:Int):aC 1 (a6 fMB 0) (a8 fMB 0) (aD tt (a9 T77) ([]) 1 100 (a5 0 (a0 fMB)) (a97 n k c i) [(0,false)])=
  some (.exit 0,((!decide (i<(↑n:Int)))&&true),[],aA4 k c):=by kernel_rfl
theorem aAZ (a c:List Bool) (k k':Int):aE tt (a9 T77) ([(0,⟨a6 fMB 0,a97 a.length k a 0,.normal,aA4 k' c⟩)]) 100 fMB [.c (.sl 0 0 a.length 1 none),.c (.int .i64 k)] [.live (.bools a)] []=
  some ⟨.c (.int .i64 k'),[.live (.bools c)],true,[a97 a.length k a 0=a97 a.length k a 0]⟩:=by kernel_rfl
def aAC (k:Int) (i:Nat) (c:List Bool):List Bool:=c.set i ((k+(i:Int)).tmod 3==0)
def a9B (k:Int) (a:List Bool):List Bool:=bH (aAC k) a.length 0 a
theorem a90 (k:Int) (a:List Bool):(a9B k a).length=a.length∧ ∀i,i<a.length→(a9B k a).getD i false=((k+(i:Int)).tmod 3==0):=a9G rfl fun _ _=>rfl
theorem aBU (a:List Bool) (k:Int) (hn:a.length≤274877906944) (hk:0≤k) (hk2:k≤4611686018427387904):
  aN none Tryz.prog 1 (.block 0 (.loop (a5 0 (a0 fMB)))) (a97 a.length k a 0) fun e t=>e=.normal∧t=aA4 (k+(a.length:Int)) (a9B k a):=by
 have key:=aN.count (ro:=none) hT t77 bF (m:=1) (id:=0) (body:=a5 0 (a0 fMB)) (β:=List Bool) a.length (fun _ c=>c.length=a.length) (fun i c=>a97 a.length (k+(i:Int)) c i) (fun c=>aA4 (k+(a.length:Int)) c) (aAC k) (a6 fMB 0) (a8 fMB 0) (fun _ _=>[]) (fun _ _ _ _=>aK.nil) (fun i c hi hc=>⟨by unfold aAC;rw[List.length_set];exact hc, ?_⟩) (fun c _=>⟨_,_,⟨_,_,aAO a.length (k+(a.length:Int)) c a.length,by simp,by simp⟩⟩) a rfl
 ·unfold a9B;simpa using key
 ·have e:=aAN a.length (k+(i:Int)) c i
  rw[aB (i:=(i:Int)+1) (by omega) (by omega),aB (i:=k+(i:Int)+1) (by omega) (by omega),Int.toNat_natCast,show k+(i:Int)+1=k+((i+1:Nat):Int)from by omega]at e
  refine⟨_,_,⟨_,_,e, ?_,by simp⟩⟩
  simp only[hc,bS,rpS]
  first|omega|(simp;omega)
def a9O:aM:=fun args h=>
 match args,h with
 |[.c (.sl 0 0 n 1 none),.c (.int .i64 k)],[.live (.bools a)]=>
  some (.c (.int .i64 (k+(a.length:Int))),[.live (.bools (a9B k a))],[decide (a.length≤274877906944),decide (n=a.length),decide (0≤k),decide (k≤4611686018427387904)])
 |_,_=>none
theorem aC2:aQ Tryz.prog 103 a9O:=by
 intro args h res h' o he ho
 unfold a9O at he
 split at he
 case h_2=>cases he
 rename_i n k a
 simp only[Option.some.injEq,Prod.mk.injEq]at he
 obtain⟨rfl,rfl,rfl⟩:=he
 simp only[List.mem_cons,List.not_mem_nil,or_false,forall_eq_or_imp,forall_eq,decide_eq_true_eq]at ho
 obtain⟨o1,o2,o3,o4⟩:=ho
 subst o2
 exact mo (fn:=fMB) t77 (aAZ a (a9B k a) k (k+(a.length:Int))) (by simp) (hlc:=(fun cc hcc=>aK.cons (c:=cc) (by cases hcc;kernel_rfl) (by cases hcc;exact aBU a k o1 o3 o4) aK.nil))
noncomputable abbrev fHB:=Tryz.f104
noncomputable def a95 (a:List Bool) (k i:Int):St:=aR fHB.ntmps [(0,.c (.view none (.bools a) a.length 1 none)),(1,.c (.int .i64 k)),(5,.c (.int .i64 i))] []
noncomputable def aA2 (k:Int):St:=aR fHB.ntmps [(1,.c (.int .i64 k))] []
theorem aAJ (a:List Bool) (k i:Int):aC 0 (a6 fHB 0) (a8 fHB 0) (aD tt (a9 T77) ([]) 0 100 (a5 0 (a0 fHB)) (a95 a k i) [(0,true),(0,false)])=
  some (.normal,(decide (i<(↑a.length:Int))&&(decide (0≤i)&&(decide (i<(↑a.length:Int))&&(decide (i.toNat<a.length)&&((!!a.getD i.toNat false==(k.tmod 3==0))&&true))))),[],a95 a (IntKind.i64.wrap (k+1)) (IntKind.i64.wrap (i+1))):=by kernel_rfl
theorem aAK (a:List Bool) (k i:Int):aC 0 (a6 fHB 0) (a8 fHB 0) (aD tt (a9 T77) ([]) 0 100 (a5 0 (a0 fHB)) (a95 a k i) [(0,false)])=
  some (.exit 0,((!decide (i<(↑a.length:Int)))&&true),[],aA2 k):=by kernel_rfl
theorem aAX (a:List Bool) (k k':Int):aE tt (a9 T77) ([(0,⟨a6 fHB 0,a95 a k 0,.normal,aA2 k'⟩)]) 100 fHB [.c (.view none (.bools a) a.length 1 none),.c (.int .i64 k)] [] []=
  some ⟨.c (.int .i64 k'),[],true,[a95 a k 0=a95 a k 0]⟩:=by kernel_rfl
def hdB (k:Int) (a:List Bool):Bool:=cH (fun i=>a.getD i false==((k+(i:Int)).tmod 3==0)) a.length 0
theorem aBO (k:Int) (a:List Bool):hdB k (a9B k a)=true:=by
 obtain⟨h1,h2⟩:=a90 k a
 unfold hdB
 rw[cC]
 intro i _ hi
 rw[h2 i (by omega),beq_self_eq_true]
theorem aBS (a:List Bool) (k:Int) (hn:a.length≤274877906944) (hk:0≤k) (hk2:k≤4611686018427387904) (hh:hdB k a=true):
  aN none Tryz.prog 0 (.block 0 (.loop (a5 0 (a0 fHB)))) (a95 a k 0) fun e t=>e=.normal∧t=aA2 (k+(a.length:Int)):=by
 have hh:=cC.1 hh
 have key:=aN.count (ro:=none) hT t77 bF (m:=0) (id:=0) (body:=a5 0 (a0 fHB)) (β:=Unit) a.length (fun _ _=>True) (fun i _=>a95 a (k+(i:Int)) i) (fun _=>aA2 (k+(a.length:Int))) (fun _ _=>()) (a6 fHB 0) (a8 fHB 0) (fun _ _=>[]) (fun _ _ _ _=>aK.nil) (fun i _ hi _=>⟨trivial, ?_⟩) (fun _ _=>⟨_,_,⟨_,_,aAK a (k+(a.length:Int)) a.length,by simp,by simp⟩⟩) () trivial
 ·simpa using key
 ·have hv:=hh i (by omega) (by omega)
  have hv:=beq_iff_eq.1 hv
  have e:=aAJ a (k+(i:Int)) i
  rw[aB (i:=(i:Int)+1) (by omega) (by omega),aB (i:=k+(i:Int)+1) (by omega) (by omega),Int.toNat_natCast,show k+(i:Int)+1=k+((i+1:Nat):Int)from by omega]at e
  refine⟨_,_,⟨_,_,e, ?_,by simp⟩⟩
  simp only[hv,bne_self_eq_false,beq_self_eq_true,bS,rpS]
  first|omega|(simp;omega)
def a9M:aM:=fun args h=>
 match args,h with
 |[.c (.view _ (.bools a) n1 1 _),.c (.int .i64 k)],[]=>
  some (.c (.int .i64 (k+(a.length:Int))),[],[decide (a.length≤274877906944),decide (0≤k),decide (k≤4611686018427387904),hdB k a])
 |_,_=>none
theorem aC0:aS Tryz.prog 104 a9M:=by
 intro args h res h' o hnorm he ho
 unfold a9M at he
 split at he
 case h_2=>cases he
 rename_i nl a n1 cap k
 simp only[Option.some.injEq,Prod.mk.injEq]at he
 obtain⟨rfl,rfl,rfl⟩:=he
 simp only[List.mem_cons,List.not_mem_nil,or_false,forall_eq_or_imp,forall_eq,decide_eq_true_eq]at ho
 obtain⟨o1,o2,o3,o4⟩:=ho
 simp only[b8,AV.norm,bA,aF.norm,Con.size,List.cons.injEq,AV.c.injEq,AV.agg.injEq,aF.view.injEq,aL,true_and,and_true]at hnorm
 obtain⟨rfl,rfl,rfl⟩:=hnorm
 exact mo (fn:=fHB) t77 (aAX a k (k+(a.length:Int))) (by simp) (hlc:=(fun cc hcc=>aK.cons (c:=cc) (by cases hcc;kernel_rfl) (by cases hcc;exact aBS a k o1 o2 o3 o4) aK.nil))
noncomputable abbrev fEB:=Tryz.f71
noncomputable def a92 (a:List Bool) (i:Int):St:=aR fEB.ntmps [(0,.c (.view none (.bools a) a.length 1 none)),(1,.c (.view none (.bools a) a.length 1 none)),(5,.c (.int .i64 i))] []
noncomputable def a9W:St:=aR fEB.ntmps [] []
theorem aAF (a:List Bool) (i:Int):aC 0 (a6 fEB 0) (a8 fEB 0) (aD tt (a9 T77) ([]) 0 100 (a5 0 (a0 fEB)) (a92 a i) [(0,true),(0,false)])=
  some (.normal,(decide (i<(↑a.length:Int))&&(decide (0≤i)&&(decide (i<(↑a.length:Int))&&(decide (i.toNat<a.length)&&(decide (0≤i)&&(decide (i<(↑a.length:Int))&&(decide (i.toNat<a.length)&&((!!a.getD i.toNat false==a.getD i.toNat false)&&true)))))))),[],a92 a (IntKind.i64.wrap (i+1))):=by kernel_rfl
theorem aAG (a:List Bool) (i:Int):aC 0 (a6 fEB 0) (a8 fEB 0) (aD tt (a9 T77) ([]) 0 100 (a5 0 (a0 fEB)) (a92 a i) [(0,false)])=
  some (.exit 0,((!decide (i<(↑a.length:Int)))&&true),[],a9W):=by kernel_rfl
theorem aCB (a:List Bool):aE tt (a9 T77) ([(0,⟨a6 fEB 0,a92 a 0,.normal,a9W⟩)]) 100 fEB [.c (.view none (.bools a) a.length 1 none),.c (.view none (.bools a) a.length 1 none)] [] [(0,true)]=
  some ⟨.c (.bool false),[],(((↑a.length:Int)!=(↑a.length:Int))&&true),[]⟩:=by kernel_rfl
theorem aAV (a:List Bool):aE tt (a9 T77) ([(0,⟨a6 fEB 0,a92 a 0,.normal,a9W⟩)]) 100 fEB [.c (.view none (.bools a) a.length 1 none),.c (.view none (.bools a) a.length 1 none)] [] [(0,false)]=
  some ⟨.c (.bool true),[],((!(↑a.length:Int)!=(↑a.length:Int))&&true),[a92 a 0=a92 a 0]⟩:=by kernel_rfl
theorem aBQ (a:List Bool) (hn:a.length≤274877906944):
  aN none Tryz.prog 0 (.block 0 (.loop (a5 0 (a0 fEB)))) (a92 a 0) fun e t=>e=.normal∧t=a9W:=by
 refine aN.count (ro:=none) hT t77 bF (m:=0) (id:=0) (body:=a5 0 (a0 fEB)) (β:=Unit) a.length (fun _ _=>True) (fun i _=>a92 a i) (fun _=>a9W) (fun _ _=>()) (a6 fEB 0) (a8 fEB 0) (fun _ _=>[]) (fun _ _ _ _=>aK.nil) (fun i _ hi _=>⟨trivial, ?_⟩) (fun _ _=>⟨_,_,⟨_,_,aAG a a.length,by simp,by simp⟩⟩) () trivial
 have e:=aAF a i
 rw[aB (i:=(i:Int)+1) (by omega) (by omega),Int.toNat_natCast]at e
 refine⟨_,_,⟨_,_,e, ?_,by simp⟩⟩
 simp only[bne_self_eq_false,beq_self_eq_true,bS,rpS]
 first|omega|(simp;omega)
def a9K:aM:=fun args h=>
 match args,h with
 |[.c (.view _ (.bools a) n1 1 _),.c (.view _ (.bools b) n2 1 _)],[]=>
  some (.c (.bool true),[],[decide (a.length≤274877906944),decide (a=b)])
 |_,_=>none
theorem aBY:aS Tryz.prog 71 a9K:=by
 intro args h res h' o hnorm he ho
 unfold a9K at he
 split at he
 case h_2=>cases he
 rename_i nl a n1 cap nl2 b n2 cap2
 simp only[Option.some.injEq,Prod.mk.injEq]at he
 obtain⟨rfl,rfl,rfl⟩:=he
 simp only[List.mem_cons,List.not_mem_nil,or_false,forall_eq_or_imp,forall_eq,decide_eq_true_eq]at ho
 obtain⟨o1,o2⟩:=ho
 simp only[b8,AV.norm,bA,aF.norm,Con.size,List.cons.injEq,AV.c.injEq,AV.agg.injEq,aF.view.injEq,aL,true_and,and_true]at hnorm
 obtain⟨⟨rfl,rfl,rfl⟩,rfl,rfl,rfl⟩:=hnorm
 subst o2
 exact mo (fn:=fEB) t77 (aAV a) (by simp) (hlc:=(fun cc hcc=>aK.cons (c:=cc) (by cases hcc;kernel_rfl) (by cases hcc;exact aBQ a o1) aK.nil))
theorem aB3 (a:List Bool) (l:Int):aE tt (a9 T77) ([]) 100 Tryz.f66 [.c (.view none (.bools a) a.length 1 none),.c (.int .i64 l)] [] [(0,true)]=
  some ⟨.c (.int .i64 (-1)),[],((decide (IntKind.i64.wrap (l-(↑a.length:Int))<0))&&true),[]⟩:=by kernel_rfl
theorem aB4 (a:List Bool) (l:Int):aE tt (a9 T77) ([]) 100 Tryz.f66 [.c (.view none (.bools a) a.length 1 none),.c (.int .i64 l)] [] [(0,false)]=
  some ⟨.c (.int .i64 (IntKind.i64.wrap (l-(↑a.length:Int)))),[],((!decide (IntKind.i64.wrap (l-(↑a.length:Int))<0))&&true),[]⟩:=by kernel_rfl
def a9Q:aM:=fun args h=>
 match args,h with
 |[.c (.view _ (.bools a) n1 1 _),.c (.int .i64 l)],[]=>
  some (.c (.int .i64 (szF l a.length)),[],[decide (a.length≤9223372036854775807),decide (0≤l),decide (l≤1048576)])
 |_,_=>none
theorem aC6:aS Tryz.prog 66 a9Q:=by
 intro args h res h' o hnorm he ho
 unfold a9Q at he
 split at he
 case h_2=>cases he
 rename_i nl a n1 cap l
 simp only[Option.some.injEq,Prod.mk.injEq]at he
 obtain⟨rfl,rfl,rfl⟩:=he
 simp only[List.mem_cons,List.not_mem_nil,or_false,forall_eq_or_imp,forall_eq,decide_eq_true_eq]at ho
 obtain⟨o1,o2,o3⟩:=ho
 simp only[b8,AV.norm,bA,aF.norm,Con.size,List.cons.injEq,AV.c.injEq,AV.agg.injEq,aF.view.injEq,aL,true_and,and_true]at hnorm
 obtain⟨rfl,rfl,rfl⟩:=hnorm
 unfold szF
 have w:IntKind.i64.wrap (l-(a.length:Int))=l-(a.length:Int):=by
  simp only[IntKind.wrap,IntKind.bits,IntKind.signed];simp;omega
 cases c:decide (l-(a.length:Int)<0)with
 |true=>exact mo t77 (aB3 a l) (by rw[w,c];rfl)
 |false=>
  have e:=aB4 a l
  rw[w]at e
  exact mo t77 e (by rw[c];rfl)
end
section
noncomputable def T80:List aZ:=[⟨245,[],nm a9V⟩,⟨67,[],nm a9U⟩,⟨172,[0],a9P⟩,⟨103,[0],a9O⟩,⟨185,[],nm a9N⟩,⟨104,[],nm a9M⟩,⟨247,[],nm a9L⟩,⟨71,[],nm a9K⟩,⟨237,[],nm a9R⟩,⟨66,[],nm a9Q⟩,⟨135,[],nm xA⟩]++T77
theorem e80:a7 Tryz.prog T80:=by
 refine a7.append ?_ e77
 intro e he
 simp only[List.mem_cons,List.not_mem_nil,or_false]at he
 rcases he with rfl|rfl|rfl|rfl|rfl|rfl|rfl|rfl|rfl|rfl|rfl
 ·exact aC5.ok
 ·exact aC4.ok
 ·exact aC3
 ·exact aC2
 ·exact aC1.ok
 ·exact aC0.ok
 ·exact aBZ.ok
 ·exact aBY.ok
 ·exact aC7.ok
 ·exact aC6.ok
 ·exact m18.ok
theorem t80:bK Tryz.prog (a9 T80):=aO e80
theorem a8W {l:Int} {n:Nat} (h:l-(n:Int)<0):szF l n= -1:=by unfold szF;rw[decide_eq_true h];rfl
theorem a8X {l:Int} {n:Nat} (h: ¬(l-(n:Int)<0)):szF l n=l-n:=by unfold szF;rw[decide_eq_false h];rfl
theorem aBC {n:Nat} (h: ¬(szF 1048576 n<0)):n≤1048576:=by
 by_cases c:(1048576:Int)-(n:Int)<0
 ·rw[a8W c]at h;omega
 ·omega
theorem aBL (k:Int) (a:List Int):(a9C k a).length=a.length:=(a91 k a).1
theorem aBK (k:Int) (a:List Bool):(a9B k a).length=a.length:=(a90 k a).1
theorem aBG (k l:Int) (a b:List Int) (c:List Bool):aE tt (a9 T80) ([]) 100 Tryz.f236 [.agg [.int .i64 k,.view none (.ints .i64 a) a.length 1 none,.view none (.ints .i64 b) b.length 1 none,.view none (.bools c) c.length 1 none],.c (.int .i64 l)] [] [(0,true)]=
  some ⟨.c (.int .i64 (-1)),[],(decide (a.length≤9223372036854775807)&&(decide (0≤l)&&(decide (l≤1048576)&&((decide (szF l a.length<0))&&true)))),[]⟩:=by kernel_rfl
theorem aBH (k l:Int) (a b:List Int) (c:List Bool):aE tt (a9 T80) ([]) 100 Tryz.f236 [.agg [.int .i64 k,.view none (.ints .i64 a) a.length 1 none,.view none (.ints .i64 b) b.length 1 none,.view none (.bools c) c.length 1 none],.c (.int .i64 l)] [] [(0,false),(0,true)]=
  some ⟨.c (.int .i64 (-1)),[],(decide (a.length≤9223372036854775807)&&(decide (0≤l)&&(decide (l≤1048576)&&(!decide (szF l a.length<0)&&(decide (b.length≤9223372036854775807)&&(decide (0≤szF l a.length)&&(decide (szF l a.length≤1048576)&&((decide (szF (szF l a.length) b.length<0))&&true)))))))),[]⟩:=by kernel_rfl
theorem aBI (k l:Int) (a b:List Int) (c:List Bool):aE tt (a9 T80) ([]) 100 Tryz.f236 [.agg [.int .i64 k,.view none (.ints .i64 a) a.length 1 none,.view none (.ints .i64 b) b.length 1 none,.view none (.bools c) c.length 1 none],.c (.int .i64 l)] [] [(0,false),(0,false),(0,true)]=
  some ⟨.c (.int .i64 (-1)),[],(decide (a.length≤9223372036854775807)&&(decide (0≤l)&&(decide (l≤1048576)&&(!decide (szF l a.length<0)&&(decide (b.length≤9223372036854775807)&&(decide (0≤szF l a.length)&&(decide (szF l a.length≤1048576)&&(!decide (szF (szF l a.length) b.length<0)&&(decide (c.length≤9223372036854775807)&&(decide (0≤szF (szF l a.length) b.length)&&(decide (szF (szF l a.length) b.length≤1048576)&&((decide (szF (szF (szF l a.length) b.length) c.length<0))&&true)))))))))))),[]⟩:=by kernel_rfl
theorem aBJ (k l:Int) (a b:List Int) (c:List Bool):aE tt (a9 T80) ([]) 100 Tryz.f236 [.agg [.int .i64 k,.view none (.ints .i64 a) a.length 1 none,.view none (.ints .i64 b) b.length 1 none,.view none (.bools c) c.length 1 none],.c (.int .i64 l)] [] [(0,false),(0,false),(0,false)]=
  some ⟨.c (.int .i64 (szF (szF (szF l a.length) b.length) c.length)),[],(decide (a.length≤9223372036854775807)&&(decide (0≤l)&&(decide (l≤1048576)&&(!decide (szF l a.length<0)&&(decide (b.length≤9223372036854775807)&&(decide (0≤szF l a.length)&&(decide (szF l a.length≤1048576)&&(!decide (szF (szF l a.length) b.length<0)&&(decide (c.length≤9223372036854775807)&&(decide (0≤szF (szF l a.length) b.length)&&(decide (szF (szF l a.length) b.length≤1048576)&&((!decide (szF (szF (szF l a.length) b.length) c.length<0))&&true)))))))))))),[]⟩:=by kernel_rfl
def a9T:aM:=fun args h=>
 match args,h with
 |[.agg [.int .i64 k,.view _ (.ints .i64 a) n1 1 _,.view _ (.ints .i64 b) n2 1 _,.view _ (.bools c) n3 1 _],.c (.int .i64 l)],[]=>
  some (.c (.int .i64 (szF l (a.length+b.length+c.length))),[],[decide (a.length≤9223372036854775807),decide (b.length≤9223372036854775807),decide (c.length≤9223372036854775807),decide (0≤l),decide (l≤1048576)])
 |_,_=>none
theorem mZS:aS Tryz.prog 236 a9T:=by
 intro args h res h' o hnorm he ho
 unfold a9T at he
 split at he
 case h_2=>cases he
 rename_i k nl1 a n1 cap1 nl2 b n2 cap2 nl3 c n3 cap3 l
 simp only[Option.some.injEq,Prod.mk.injEq]at he
 obtain⟨rfl,rfl,rfl⟩:=he
 simp only[List.mem_cons,List.not_mem_nil,or_false,forall_eq_or_imp,forall_eq,decide_eq_true_eq]at ho
 obtain⟨o1,o2,o3,o4,o5⟩:=ho
 simp only[b8,AV.norm,bA,aF.norm,Con.size,List.cons.injEq,AV.c.injEq,AV.agg.injEq,aF.view.injEq,aL,true_and,and_true]at hnorm
 obtain⟨⟨rfl,rfl,rfl⟩,⟨rfl,rfl,rfl⟩,rfl,rfl,rfl⟩:=hnorm
 by_cases h1:l-(a.length:Int)<0
 ·rw[a8W (n:=a.length+b.length+c.length) (by omega)]
  exact mo t80 (aBG k l a b c) (by simp[a8W h1,o1,o4,o5])
 ·by_cases h2:l-(a.length:Int)-(b.length:Int)<0
  ·rw[a8W (n:=a.length+b.length+c.length) (by omega)]
   exact mo t80 (aBH k l a b c) (by simp[a8X h1,a8W h2,o1,o2,o4,o5];omega)
  ·by_cases h3:l-(a.length:Int)-(b.length:Int)-(c.length:Int)<0
   ·rw[a8W (n:=a.length+b.length+c.length) (by omega)]
    exact mo t80 (aBI k l a b c) (by simp[a8X h1,a8X h2,a8W h3,o1,o2,o3,o4,o5];omega)
   ·have e:=aBJ k l a b c
    rw[a8X h1,a8X h2,a8X h3]at e
    rw[a8X (n:=a.length+b.length+c.length) (by omega),show l-((a.length+b.length+c.length:Nat):Int)=l-(a.length:Int)-(b.length:Int)-(c.length:Int)from by omega]
    exact mo t80 e (by simp[o1,o2,o3,o4,o5];omega)
theorem aBN:aQ Tryz.prog 246 (dV tt (a9 T80) Tryz.f246 [(0,false)]):=cG hT t80 bF _ (by kernel_rfl) (by kernel_rfl)
theorem aCA:aQ Tryz.prog 244 (dV tt (a9 T80) Tryz.f244 []):=cG hT t80 bF _ (by kernel_rfl) (by kernel_rfl)
noncomputable def T81:List aZ:=[⟨236,[],nm a9T⟩,⟨246,[],dV tt (a9 T80) Tryz.f246 [(0,false)]⟩,⟨244,[],dV tt (a9 T80) Tryz.f244 []⟩]++T80
theorem e81:a7 Tryz.prog T81:=by
 refine a7.append ?_ e80
 intro e he
 simp only[List.mem_cons,List.not_mem_nil,or_false]at he
 rcases he with rfl|rfl|rfl
 ·exact mZS.ok
 ·exact aBN
 ·exact aCA
theorem t81:bK Tryz.prog (a9 T81):=aO e81
theorem aBD (x:PK) (l:Int):aE tt (a9 T81) ([]) 100 Tryz.f202 [.agg x.vcells,.c (.int .i64 l)] [] [(0,true)]=
  some ⟨.c (.int .i64 (-1)),[],(decide (x.2.length≤9223372036854775807)&&(decide (x.3.length≤9223372036854775807)&&(decide (x.4.length≤9223372036854775807)&&(decide (0≤l)&&(decide (l≤1048576)&&((decide (szF l (x.2.length+x.3.length+x.4.length)<0))&&true)))))),[]⟩:=by kernel_rfl
theorem aBE (x:PK) (l:Int):aE tt (a9 T81) ([]) 100 Tryz.f202 [.agg x.vcells,.c (.int .i64 l)] [] [(0,false),(0,true)]=
  some ⟨.c (.int .i64 (-1)),[],(decide (x.2.length≤9223372036854775807)&&(decide (x.3.length≤9223372036854775807)&&(decide (x.4.length≤9223372036854775807)&&(decide (0≤l)&&(decide (l≤1048576)&&(!decide (szF l (x.2.length+x.3.length+x.4.length)<0)&&(decide (x.7.length≤9223372036854775807)&&(decide (0≤szF l (x.2.length+x.3.length+x.4.length))&&(decide (szF l (x.2.length+x.3.length+x.4.length)≤1048576)&&((decide (szF (szF l (x.2.length+x.3.length+x.4.length)) x.7.length<0))&&true)))))))))),[]⟩:=by kernel_rfl
theorem aBF (x:PK) (l:Int):aE tt (a9 T81) ([]) 100 Tryz.f202 [.agg x.vcells,.c (.int .i64 l)] [] [(0,false),(0,false)]=
  some ⟨.c (.int .i64 (szF (szF l (x.2.length+x.3.length+x.4.length)) x.7.length)),[],(decide (x.2.length≤9223372036854775807)&&(decide (x.3.length≤9223372036854775807)&&(decide (x.4.length≤9223372036854775807)&&(decide (0≤l)&&(decide (l≤1048576)&&(!decide (szF l (x.2.length+x.3.length+x.4.length)<0)&&(decide (x.7.length≤9223372036854775807)&&(decide (0≤szF l (x.2.length+x.3.length+x.4.length))&&(decide (szF l (x.2.length+x.3.length+x.4.length)≤1048576)&&((!decide (szF (szF l (x.2.length+x.3.length+x.4.length)) x.7.length<0))&&true)))))))))),[]⟩:=by kernel_rfl
def a9S:aM:=fun args h=>
 match args,h with
 |[.agg [.int .i64 k,.view _ (.ints .i64 a) n1 1 _,.view _ (.ints .i64 b) n2 1 _,.view _ (.bools c) n3 1 _,.bool on,.int .i64 kd,.view _ (.ints .i64 d) n4 1 _,.int .i64 vs],.c (.int .i64 l)],[]=>
  some (.c (.int .i64 (szF l (a.length+b.length+c.length+d.length))),[],[decide (a.length≤9223372036854775807),decide (b.length≤9223372036854775807),decide (c.length≤9223372036854775807),decide (d.length≤9223372036854775807),decide (0≤l),decide (l≤1048576)])
 |_,_=>none
theorem mZK:aS Tryz.prog 202 a9S:=by
 intro args h res h' o hnorm he ho
 unfold a9S at he
 split at he
 case h_2=>cases he
 rename_i k nl1 a n1 cap1 nl2 b n2 cap2 nl3 c n3 cap3 on kd nl4 d n4 cap4 vs l
 simp only[Option.some.injEq,Prod.mk.injEq]at he
 obtain⟨rfl,rfl,rfl⟩:=he
 simp only[List.mem_cons,List.not_mem_nil,or_false,forall_eq_or_imp,forall_eq,decide_eq_true_eq]at ho
 obtain⟨o1,o2,o3,o4,o5,o6⟩:=ho
 simp only[b8,AV.norm,bA,aF.norm,Con.size,List.cons.injEq,AV.c.injEq,AV.agg.injEq,aF.view.injEq,aL,true_and,and_true]at hnorm
 obtain⟨⟨rfl,rfl,rfl⟩,⟨rfl,rfl,rfl⟩,⟨rfl,rfl,rfl⟩,rfl,rfl,rfl⟩:=hnorm
 by_cases h1:l-((a.length+b.length+c.length:Nat):Int)<0
 ·rw[a8W (n:=a.length+b.length+c.length+d.length) (by omega)]
  exact mo t81 (aBD ⟨k,a,b,c,on,kd,d,vs⟩ l) (by simp[a8W h1,o1,o2,o3,o5,o6])
 ·by_cases h2:l-((a.length+b.length+c.length:Nat):Int)-(d.length:Int)<0
  ·rw[a8W (n:=a.length+b.length+c.length+d.length) (by omega)]
   exact mo t81 (aBE ⟨k,a,b,c,on,kd,d,vs⟩ l) (by simp only[a8X h1,a8W h2,o1,o2,o3,o4,o5,o6,decide_true,rpS];simp;omega)
  ·have e:=aBF ⟨k,a,b,c,on,kd,d,vs⟩ l
   simp only[a8X h1,a8X h2]at e
   rw[a8X (n:=a.length+b.length+c.length+d.length) (by omega),show l-((a.length+b.length+c.length+d.length:Nat):Int)=l-((a.length+b.length+c.length:Nat):Int)-(d.length:Int)from by omega]
   exact mo t81 e (by simp only[o1,o2,o3,o4,o5,o6,decide_true,rpS];simp;omega)
theorem aBM:aQ Tryz.prog 210 (dV tt (a9 T81) Tryz.f210 [(1,false),(0,false),(1,false)]):=cG hT t81 bF _ (by kernel_rfl) (by kernel_rfl)
theorem aC9:aQ Tryz.prog 209 (dV tt (a9 T81) Tryz.f209 []):=cG hT t81 bF _ (by kernel_rfl) (by kernel_rfl)
noncomputable def T82:List aZ:=[⟨202,[],nm a9S⟩,⟨210,[],dV tt (a9 T81) Tryz.f210 [(1,false),(0,false),(1,false)]⟩,⟨209,[],dV tt (a9 T81) Tryz.f209 []⟩]++T81
theorem e82:a7 Tryz.prog T82:=by
 refine a7.append ?_ e81
 intro e he
 simp only[List.mem_cons,List.not_mem_nil,or_false]at he
 rcases he with rfl|rfl|rfl
 ·exact mZK.ok
 ·exact aBM
 ·exact aC9
theorem t82:bK Tryz.prog (a9 T82):=aO e82
end
section
end
section
theorem f8.slots {m:Nat} {ts:List AV} {h h':List aU} (hs:rH h h'):f8 m ⟨ts,h⟩ ⟨ts,h'⟩:=fun X w0 ρ0 ρ a w h0 r=>
 ⟨ρ,r.size,r.tmps,⟨fun id=>kK hs id _ _ _ _ (r.mem.slot id),r.mem.inj,r.mem.own,r.mem.os,r.mem.tape,r.mem.output,r.mem.size,r.mem.keep,r.mem.foreign⟩,r.defers,r.mono,r.ids⟩
section
variable {ro : Option Nat} {P : Program} {tt : Tab} (hT : iC P tt) {ct : CT} (hct : bK P ct) (bF : P.follows .mixedOrders = true)
include hT hct bF
end
end
section
theorem bE.kill {P:Program} {f:FuncId} {args:List AV} {h h':List aU} {res:AV} (hm:bE P f args h res h') {id:Nat} {c:Con} (hs:Heap.get h' id=.live c):bE P f args h res (h'.set id .dead):=by
 refine⟨hm.1,fun {X w0 ρ0} m vs hl hv=> ?_⟩
 refine Calls.mono (hm.2 m vs hl hv) ?_
 rintro e w' ⟨v,ρ',rfl,mb,im,m',hx⟩
 obtain⟨mo,m2⟩:=m'.kill (id:=id) (by rw[hs];simp)
 exact⟨v,_,rfl,mb.trans mo.toB,im.trans mo.ids,m2,hx.mono mo⟩
end
section
def nilV:aF→aF→Prop
 |x,y=>x=y∨(x=.nils∧ ∃c es cap,y=.view none c 0 es cap∧c.size=0∧ ∀k,cap=some k→k=0)
theorem nilV.sound {X:Nat→Prop} {w:World} {ρ:Rho} {x y:aF} {v:Value} (h:nilV x y) (hx:CR X w ρ x v):CR X w ρ y v:=by
 rcases h with rfl|⟨rfl,c,es,cap,rfl,hz,hc⟩
 ·exact hx
 ·cases hx
  exact .viewNone none c es cap none 0 hz (fun k hk=>(hc k hk).symm) (fun _ h=>by cases h) (fun _=>rfl)
def jJ:List aF→List aF→Prop
 |[],[]=>True
 |x::r,y::s=>nilV x y∧jJ r s
 |_,_=>False
theorem jJ.len: ∀ {l m:List aF},jJ l m→l.length=m.length
 |[],[],_=>rfl
 |_::_,_::_,h=>by simp[jJ.len h.2]
 |[],_::_,h=>h.elim
 |_::_,[],h=>h.elim
theorem jJ.get: ∀ {l m:List aF},jJ l m→ ∀i,nilV (l.getD i .any) (m.getD i .any)
 |[],[],_,_=> .inl rfl
 |_::_,_::_,h,0=>h.1
 |_::r,_::s,h,i+1=>by simpa using jJ.get h.2 i
 |[],_::_,h,_=>h.elim
 |_::_,[],h,_=>h.elim
theorem fF.nilV {l m:List aF} (h:jJ l m):fF (.live (.cells l)) (.live (.cells m)):=fun X w ρ x hs=>by
 cases x with
 |unborn=>exact hs.elim
 |dead=>exact hs.elim
 |nil=>simp only[eN,Con.size]at hs⊢;rw[←h.len];exact hs
 |row b=>
  obtain⟨cs,ty,h1,h2,h3⟩:=hs
  refine⟨cs,ty,h1,by simp only[Con.size]at h2⊢;rw[←h.len];exact h2,fun q hq=> ?_⟩
  simp only[Con.size]at hq
  have:=h3 q (by simp only[Con.size];rw[h.len];exact hq)
  exact(h.get q).sound this
def q9:AV→AV→Prop
 |.c x,.c y=>nilV x y
 |.agg l,.agg m=>jJ l m
 |x,y=>x=y
theorem q9.sound {X:Nat→Prop} {w:World} {ρ:Rho} {x y:AV} {v:Value} (h:q9 x y) (hx:AVR X w ρ x v):AVR X w ρ y v:=by
 cases x with
 |c x=>
  cases y with
  |c y=>cases hx with|c _ _ hx=>exact .c _ _ (nilV.sound h hx)
  |_=>exact absurd h (by simp[q9])
 |agg l=>
  cases y with
  |agg m=>cases hx with|agg _ vs hs hx=>exact .agg _ _ (by rw[←jJ.len h];exact hs) fun i hi=>(jJ.get h i).sound (hx i (by rw[jJ.len h];exact hi))
  |_=>exact absurd h (by simp[q9])
 |any=>simp only[q9]at h;subst h;exact hx
 |tup l=>simp only[q9]at h;subst h;exact hx
def qA:List AV→List AV→Prop
 |[],[]=>True
 |x::r,y::s=>q9 x y∧qA r s
 |_,_=>False
theorem qA.len: ∀ {l m:List AV},qA l m→l.length=m.length
 |[],[],_=>rfl
 |_::_,_::_,h=>by simp[qA.len h.2]
 |[],_::_,h=>h.elim
 |_::_,[],h=>h.elim
theorem qA.get: ∀ {l m:List AV},qA l m→ ∀i,q9 (l.getD i (.tup [])) (m.getD i (.tup []))
 |[],[],_,_=>rfl
 |_::_,_::_,h,0=>h.1
 |_::r,_::s,h,i+1=>by simpa using qA.get h.2 i
 |[],_::_,h,_=>h.elim
 |_::_,[],h,_=>h.elim
theorem bE.nilV {P:Program} {f:FuncId} {args:List AV} {h h':List aU} {l m:List AV} (hm:bE P f args h (.tup l) h') (hl:qA l m):bE P f args h (.tup m) h':=by
 refine⟨hm.1,fun {X w0 ρ0} mm vs hl' hv=> ?_⟩
 refine Calls.mono (hm.2 mm vs hl' hv) ?_
 rintro e w' ⟨v,ρ',rfl,mb,im,m',hx⟩
 refine⟨v,_,rfl,mb,im,m', ?_⟩
 cases hx with
 |tup _ us hus hx=>exact .tup _ us (by rw[←hl.len];exact hus) fun i hi=>(hl.get i).sound (hx i (by rw[hl.len];exact hi))
end
end Go.Proofs.YtdnfojanjejdgaaGreat.Am
