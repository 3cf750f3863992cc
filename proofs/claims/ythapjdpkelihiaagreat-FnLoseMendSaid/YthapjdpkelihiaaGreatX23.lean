/- DERIVED. Pure: a shard mended. No statement of the program is proved here. -/
import Derived.Test.YthapjdpkelihiaaGreatX22
set_option linter.unusedSimpArgs false
set_option linter.unusedVariables false
set_option linter.unusedSectionVars false
namespace Go.Proofs.YthapjdpkelihiaaGreat.Am
structure One (k:Int) (a b:List Int) (c:List Bool):Prop where
 s:Sok k a b c
 rd:rdS k a b c=true
 one:cC (gA b c) 8 0=true
theorem One.mask {k:Int} {a b:List Int} {c:List Bool} (h:One k a b c):aU b c (mxL b)=c:=by
 have hc:=h.s.hc
 refine WV false (by rw[bV,hc]) hc fun i hi=> ?_
 rw[eJ _ _ _ _ (by omega)]
 have:=bY.1 h.one i (by omega) (by omega)
 unfold gA at this
 cases hcc:c.getD i false with
 |false=>rfl
 |true=>rw[hcc,cond_true]at this;rw[this];rfl
theorem One.bears {k:Int} {a b:List Int} {c:List Bool} (h:One k a b c):bO k (flg c)=true:=by
 have:=iZ h.s h.one h.rd
 rwa[h.mask]at this
theorem One.rdV {k:Int} {a b:List Int} {c:List Bool} (h:One k a b c):rdV k a b c=some (mxL b):=y9 h.s h.one (iZ h.s h.one h.rd)
theorem One.rdN {k:Int} {a b:List Int} {c:List Bool} (h:One k a b c):rdN k a b c=mxL b:=by unfold Am.rdN;rw[h.rdV]
theorem One.mx {k:Int} {a b:List Int} {c:List Bool} (h:One k a b c):1≤mxL b∧mxL b≤99:=by
 have:=h.s.vers (iP h.s (iZ h.s h.one h.rd))
 exact⟨this.1,h.s.mx.2⟩
theorem One.fit {k:Int} {a b:List Int} {c:List Bool} (h:One k a b c):Fit k a c (j7 k a (flg c)):=by
 have:=(h.s.vers (iP h.s (iZ h.s h.one h.rd))).2.2
 rw[h.mask]at this
 exact(kH h.s.hc).1 this
theorem One.rdD {k:Int} {a b:List Int} {c:List Bool} (h:One k a b c):rdD k a b c=j7 k a (flg c):=by
 have:=h.s.rdB (iP h.s (iZ h.s h.one h.rd))
 rw[h.mask,h.bears]at this
 unfold Am.rdD
 rw[h.rdV]
 dsimp only
 unfold rdX
 rw[this,cond_true,g9,h.mask]
theorem One.put {k:Int} {a b:List Int} {c:List Bool} (h:One k a b c) {i:Nat} (hi:i<8):One k (a.set i (c8 k (j7 k a (flg c)) (i:Int))) (b.set i (mxL b)) (c.set i true)∧Am.rdD k (a.set i (c8 k (j7 k a (flg c)) (i:Int))) (b.set i (mxL b)) (c.set i true)=Am.rdD k a b c∧mxL (b.set i (mxL b))=mxL b:=by
 obtain⟨m1,m2⟩:=h.mx
 obtain⟨hk,ha,hb,hc,hf,hth,hno⟩:=h.s
 have F:=h.fit
 have one: ∀j,j<8→c.getD j false=true→b.getD j 0=mxL b:=fun j hj hcj=>by
  have:=bY.1 h.one j (by omega) (by omega)
  unfold gA at this
  rw[hcj,cond_true]at this
  simpa using this
 have hm:mxL (b.set i (mxL b))=mxL b:=by
  obtain⟨u1,u2⟩:=eK (b.set i (mxL b))
  obtain⟨w1,-⟩:=eK b
  have g:=u1 i (by rw[List.length_set];omega)
  rw[aX,if_pos ⟨rfl,by omega⟩]at g
  rcases u2 with u2|⟨j,hj,u2⟩
  ·omega
  ·rw[List.length_set]at hj
   rw[aX]at u2
   split at u2
   ·exact u2.symm
   ·have:=w1 j hj;omega
 have one': ∀j,j<8→(c.set i true).getD j false=true→(b.set i (mxL b)).getD j 0=mxL b:=fun j hj hcj=>by
  rw[aX]
  by_cases e:i=j
  ·rw[if_pos ⟨e,by omega⟩]
  ·rw[if_neg (fun x=>e x.1)]
   rw[cY,if_neg (fun x=>e x.1)]at hcj
   exact one j hj hcj
 have hone:cC (gA (b.set i (mxL b)) (c.set i true)) 8 0=true:=bY.2 fun j _ hj=>by
  unfold gA
  cases hcj:(c.set i true).getD j false with
  |false=>rfl
  |true=>rw[cond_true,one' j (by omega) hcj,hm];simp
 have hmask:aU (b.set i (mxL b)) (c.set i true) (mxL b)=c.set i true:=by
  refine WV false (by rw[bV,List.length_set,hc]) (by rw[List.length_set,hc]) fun j hj=> ?_
  rw[eJ _ _ _ _ (by rw[List.length_set];omega)]
  cases hcj:(c.set i true).getD j false with
  |false=>rfl
  |true=>rw[one' j hj hcj];simp
 have F':Fit k (a.set i (c8 k (j7 k a (flg c)) (i:Int))) (c.set i true) (j7 k a (flg c)):=fun j hj hcj=>by
  rw[aX]
  by_cases e:i=j
  ·rw[if_pos ⟨e,by omega⟩,e]
  ·rw[if_neg (fun x=>e x.1)]
   rw[cY,if_neg (fun x=>e x.1)]at hcj
   exact F j hj hcj
 have hc':(c.set i true).length=8:=by rw[List.length_set,hc]
 have fits:=gM hk hc' F'
 have hb':=(qA hk hc h.bears).1 i hi
 have S':Sok k (a.set i (c8 k (j7 k a (flg c)) (i:Int))) (b.set i (mxL b)) (c.set i true):=by
  refine⟨hk,by rw[List.length_set,ha],by rw[List.length_set,hb],hc',cZ hf (gL _ _ _),fun j hj hcj=> ?_,fun j hj hcj=> ?_⟩
  ·rw[one' j hj hcj,hmask]
   exact⟨b8.2 ⟨m1,m2⟩,fits⟩
  ·rw[cY]at hcj
   by_cases e:i=j
   ·rw[if_pos ⟨e,by omega⟩]at hcj;cases hcj
   ·rw[if_neg (fun x=>e x.1)]at hcj
    rw[aX,if_neg (fun x=>e x.1),aX,if_neg (fun x=>e x.1)]
    exact hno j hj hcj
 have hv:=y9 S' hone (by rw[hm,hmask];exact hb')
 have O:One k (a.set i (c8 k (j7 k a (flg c)) (i:Int))) (b.set i (mxL b)) (c.set i true):=⟨S',by unfold rdS;rw[hv],hone⟩
 refine⟨O, ?_,hm⟩
 have sh:=iY (b:=b) (vs:=mxL b) hc
 rw[g9,h.mask]at sh
 obtain⟨q1,q2⟩:=gW (QU (w:=a) hk sh.1)
 rw[O.rdD,h.rdD]
 exact mT hk hc' hb' q2 q1 F'
theorem zU {k:Int} {a b:List Int} {c:List Bool} (h:One k a b c) {i:Int} (hi:bet i 0 7=true):
  (mdB k a b c i=false→c.getD i.toNat false=true)∧(mdB k a b c i=true→mdA k a b c i=a.set i.toNat (c8 k (j7 k a (flg c)) i)∧mdN k a b c i=b.set i.toNat (mxL b)∧mdC k a b c i=c.set i.toNat true):=by
 have hc:=h.s.hc
 obtain⟨-,e2⟩:=JR h.s.hk hi (b:=b) hc (mxL b)
 have eB:mdB k a b c i=isO (mdO k i b c (mxL b)):=by unfold mdB;rw[h.rd,cond_true,h.rdN]
 refine⟨fun hn=> ?_,fun hy=> ?_⟩
 ·cases hcc:c.getD i.toNat false with
  |true=>rfl
  |false=>
   have:=CV h.s.hk hi hc h.bears hcc
   rw[eB]at hn
   unfold mdO at hn
   rw[h.mask,this]at hn
   cases hn
 ·have eV:mdV k a b c i=c8 k (j7 k a (flg c)) i:=by
   rw[eB]at hy
   unfold mdV
   rw[h.rdN]
   cases ho:mdO k i b c (mxL b)with
   |none=>rw[ho]at hy;cases hy
   |some y=>
    have p:=e2 y ho
    have v:=p.value (w:=a) (d:=j7 k a (flg c)) (by rw[h.mask];exact h.fit)
    rw[p.same]at v
    have eb:byO k i (some y)=slA k i y:=by simp only[byO,kC,lsO,Option.isSome_some,Option.getD_some,cond_true]
    rw[eb,show lsO (some y)=y from rfl]
    exact v
  unfold mdA mdN mdC
  rw[hy,eV,h.rdN]
  exact⟨rfl,rfl,rfl⟩
theorem PK.oneK {x:PK} (h:x.ok=true) (ho:x.on=false):One x.k x.a x.b x.c:=⟨(x.offK h ho).s,(x.offK h ho).rd,(x.offK h ho).one⟩
theorem M9 {x:PK} {i:Int} (h:x.ok=true) (ho:x.on=true) (hi:bet i 0 7=true):fD x i=shR x i∧kM x i=true:=by
 unfold fD kM
 rw[h,hi,ho];exact⟨rfl,rfl⟩
theorem zW {x:PK} {i:Int} (h:x.ok=true) (ho:x.on=false) (hi:bet i 0 7=true):fD x i=mdK x i∧kM x i=mdB x.k x.a x.b x.c i:=by
 unfold fD kM
 rw[h,hi,ho];exact⟨rfl,rfl⟩
theorem tF {x:PK} {i:Int} (h:x.ok=true) (hi:bet i 0 7=true):(fD x i).ok=true∧(fD x i).rB=true∧(fD x i).rD=x.rD∧
  (kM x i=false→x.on=false∧x.c.getD i.toNat false=true∧fD x i=x)∧(kM x i=true→(fD x i).c.getD i.toNat false=true):=by
 have hi':=b8.1 hi
 obtain⟨-,la,lb,lc⟩:=gG h
 cases ho:x.on with
 |true=>
  obtain⟨e1,e2⟩:=M9 h ho hi
  obtain⟨S,f1,f2,f3,f4,f5,f6,-⟩:=AJ h ho hi
  rw[e1,e2]
  exact⟨S.ok,f1,f2,fun h=>(by cases h),fun _=>f6⟩
 |false=>
  obtain⟨e1,e2⟩:=zW h ho hi
  have O:=x.oneK h ho
  have K:=x.offK h ho
  obtain⟨m1,m2⟩:=zU O hi
  rw[e1,e2]
  cases hb:mdB x.k x.a x.b x.c i with
  |false=>
   have e:mdK x i=x:=by unfold mdK mdA mdN mdC;rw[hb];rfl
   rw[e]
   exact⟨h,JU h,rfl,fun _=>⟨rfl,m1 hb,rfl⟩,fun h=>by cases h⟩
  |true=>
   obtain⟨q1,q2,q3⟩:=m2 hb
   obtain⟨O',r1,r2⟩:=O.put (i:=i.toNat) (by omega)
   rw[show((i.toNat:Nat):Int)=i from by omega,←q1,←q2,←q3]at O'
   rw[show((i.toNat:Nat):Int)=i from by omega,←q1,←q2,←q3]at r1
   have ho':(mdK x i).on=false:=ho
   have ok':(mdK x i).ok=true:=lC ho' ⟨O'.s,O'.rd,O'.one,K.kd0,K.d0,K.vs0⟩
   refine⟨ok',JU ok', ?_,fun h=>(by cases h),fun _=> ?_⟩
   ·rw[CW ok' ho',CW h ho];exact r1
   ·show(mdC x.k x.a x.b x.c i).getD i.toNat false=true
    rw[q3,cY,if_pos ⟨rfl,by omega⟩]
theorem Y5 (x:PK) (i:Int):(fD x i).a.length≤8∧(fD x i).b.length≤8∧(fD x i).c.length≤8∧(fD x i).d.length≤4:=by
 cases h:x.ok&&bet i 0 7 with
 |false=>unfold fD;rw[h];exact⟨by show 0≤8;omega,by show 0≤8;omega,by show 0≤8;omega,by show 0≤4;omega⟩
 |true=>
  rw[Bool.and_eq_true]at h
  obtain⟨q,-⟩:=tF h.1 h.2
  have:=gG q
  omega
theorem WG {x:PK} {i:Int} (h:x.ok=true) (ho:x.on=false) (hi:bet i 0 7=true) (hc:x.c.getD i.toNat false=true) (hl:(fC x i).c.getD i.toNat false=false):fD (fC x i) i=x∧kM (fC x i) i=true:=by
 have hi':=b8.1 hi
 obtain⟨-,la,lb,lc⟩:=gG h
 have okl:=E9 h hi
 have el:fC x i=cE x i:=by
  unfold fC at hl⊢
  rw[h,hi,ho,Bool.and_self,cond_true,Bool.not_false,Bool.and_true]at hl⊢
  cases hr:rdS x.k (cE x i).a (cE x i).b (cE x i).c with
  |true=>rw[Bool.not_true,cond_false]
  |false=>rw[hr,Bool.not_false,cond_true,hc]at hl;cases hl
 rw[el]at okl hl⊢
 have ho':(cE x i).on=false:=ho
 obtain⟨m1,m2,m3,m4,m5⟩:=tF okl hi
 have O:=x.oneK h ho
 have O':=(cE x i).oneK okl ho'
 cases hb:kM (cE x i) i with
 |false=>rw[(m4 hb).2.1]at hl;cases hl
 |true=>
  refine⟨?_,rfl⟩
  obtain⟨e1,e2⟩:=zW okl ho' hi
  rw[e2]at hb
  obtain⟨q1,q2,q3⟩:=(zU O' hi).2 hb
  have hu: ∀(l:List Int) (m:Nat) (u v:Int),(l.set m u).set m v=l.set m v:=fun l m u v=>List.set_set ..
  have keep: ∀(l:List Int) (m:Nat),m<l.length→l.set m (l.getD m 0)=l:=fun l m hm=>by
   rw[List.getD_eq_getElem?_getD,List.getElem?_eq_getElem hm];exact List.set_getElem_self hm
  have one: ∀j,j<8→x.c.getD j false=true→x.b.getD j 0=mxL x.b:=fun j hj hcj=>by
   have:=bY.1 O.one j (by omega) (by omega)
   unfold gA at this
   rw[hcj,cond_true]at this
   simpa using this
  have eD:j7 (cE x i).k (cE x i).a (flg (cE x i).c)=j7 x.k x.a (flg x.c):=by
   have sh:=iY (b:=x.b) (vs:=mxL x.b) lc
   rw[g9,O.mask]at sh
   obtain⟨u1,u2⟩:=gW (QU (w:=x.a) O.s.hk sh.1)
   refine mT O.s.hk O'.s.hc O'.bears u2 u1 fun j hj hcj=> ?_
   have hcj:(x.c.set i.toNat false).getD j false=true:=hcj
   show _=(x.a.set i.toNat 0).getD j 0
   rw[cY]at hcj
   by_cases e:i.toNat=j
   ·rw[if_pos ⟨e,by omega⟩]at hcj;cases hcj
   ·rw[if_neg (fun g=>e g.1)]at hcj
    rw[aX,if_neg (fun g=>e g.1)]
    exact O.fit j hj hcj
  have eM:mxL (cE x i).b=mxL x.b:=by
   obtain⟨u1,u2⟩:=eK (cE x i).b
   have h1:=O'.mx.1
   rcases u2 with u2|⟨j,hj,u2⟩
   ·omega
   ·have hj:j<(x.b.set i.toNat 0).length:=hj
    rw[List.length_set]at hj
    have hg:(cE x i).b.getD j 0=(x.b.set i.toNat 0).getD j 0:=rfl
    rw[hg,aX]at u2
    by_cases e:i.toNat=j
    ·rw[if_pos ⟨e,by omega⟩]at u2;omega
    ·rw[if_neg (fun g=>e g.1)]at u2
     cases hcj:x.c.getD j false with
     |true=>rw[←u2];exact one j (by omega) hcj
     |false=>have:=(O.s.no j (by omega) hcj).2;omega
  rw[eD,O.fit i.toNat (by omega) hc|>fun e=>(show c8 (cE x i).k (j7 x.k x.a (flg x.c)) i=x.a.getD i.toNat 0 by rw[←e];show c8 x.k _ i=_;congr 1;omega)]at q1
  rw[eM,←one i.toNat (by omega) hc]at q2
  rw[e1]
  show(⟨x.k,mdA x.k (cE x i).a (cE x i).b (cE x i).c i,mdN x.k (cE x i).a (cE x i).b (cE x i).c i,mdC x.k (cE x i).a (cE x i).b (cE x i).c i,x.on,x.kd,x.d,x.vs⟩:PK)=x
  have q1:mdA x.k (cE x i).a (cE x i).b (cE x i).c i=(x.a.set i.toNat 0).set i.toNat (x.a.getD i.toNat 0):=q1
  have q2:mdN x.k (cE x i).a (cE x i).b (cE x i).c i=(x.b.set i.toNat 0).set i.toNat (x.b.getD i.toNat 0):=q2
  have q3:mdC x.k (cE x i).a (cE x i).b (cE x i).c i=(x.c.set i.toNat false).set i.toNat true:=q3
  rw[q1,q2,q3,hu,hu,keep _ _ (by omega),keep _ _ (by omega),List.set_set]
  have kc:x.c.set i.toNat true=x.c:=by
   rw[←hc,List.getD_eq_getElem?_getD,List.getElem?_eq_getElem (show i.toNat<x.c.length by omega)];exact List.set_getElem_self _
  rw[kc]
end Go.Proofs.YthapjdpkelihiaaGreat.Am
