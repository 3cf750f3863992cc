/- DERIVED. Pure: a shard mended. No statement of the program is proved here. -/
import Derived.Test.YthapjdpkelihiaaGreatX22
set_option linter.unusedSimpArgs false
set_option linter.unusedVariables false
set_option linter.unusedSectionVars false
namespace Go.Proofs.YthapjdpkelihiaaGreat.Am
structure One (k:Int) (a b:List Int) (c:List Bool):Prop where
 s:Sok k a b c
 rd:rdS k a b c=true
 one:c9 (gD b c) 8 0=true
theorem One.mask {k:Int} {a b:List Int} {c:List Bool} (h:One k a b c):aR b c (mxL b)=c:=by
 have hc:=h.s.hc
 refine W6 false (by rw[bP,hc]) hc fun i hi=> ?_
 rw[eF _ _ _ _ (by omega)]
 have:=bX.1 h.one i (by omega) (by omega)
 unfold gD at this
 cases hcc:c.getD i false with
 |false=>rfl
 |true=>rw[hcc,cond_true]at this;rw[this];rfl
theorem One.bears {k:Int} {a b:List Int} {c:List Bool} (h:One k a b c):bO k (flg c)=true:=by
 have:=iP h.s h.one h.rd
 rwa[h.mask]at this
theorem One.rdV {k:Int} {a b:List Int} {c:List Bool} (h:One k a b c):rdV k a b c=some (mxL b):=xT h.s h.one (iP h.s h.one h.rd)
theorem One.rdN {k:Int} {a b:List Int} {c:List Bool} (h:One k a b c):rdN k a b c=mxL b:=by unfold Am.rdN;rw[h.rdV]
theorem One.mx {k:Int} {a b:List Int} {c:List Bool} (h:One k a b c):1≤mxL b∧mxL b≤99:=by
 have:=h.s.vers (iG h.s (iP h.s h.one h.rd))
 exact⟨this.1,h.s.mx.2⟩
theorem One.fit {k:Int} {a b:List Int} {c:List Bool} (h:One k a b c):Fit k a c (kK k a (flg c)):=by
 have:=(h.s.vers (iG h.s (iP h.s h.one h.rd))).2.2
 rw[h.mask]at this
 exact(k8 h.s.hc).1 this
theorem One.rdD {k:Int} {a b:List Int} {c:List Bool} (h:One k a b c):rdD k a b c=kK k a (flg c):=by
 have:=h.s.rdB (iG h.s (iP h.s h.one h.rd))
 rw[h.mask,h.bears]at this
 unfold Am.rdD
 rw[h.rdV]
 dsimp only
 unfold rdX
 rw[this,cond_true,gX,h.mask]
theorem One.put {k:Int} {a b:List Int} {c:List Bool} (h:One k a b c) {i:Nat} (hi:i<8):One k (a.set i (c8 k (kK k a (flg c)) (i:Int))) (b.set i (mxL b)) (c.set i true)∧Am.rdD k (a.set i (c8 k (kK k a (flg c)) (i:Int))) (b.set i (mxL b)) (c.set i true)=Am.rdD k a b c∧mxL (b.set i (mxL b))=mxL b:=by
 obtain⟨m1,m2⟩:=h.mx
 obtain⟨hk,ha,hb,hc,hf,hth,hno⟩:=h.s
 have F:=h.fit
 have one: ∀j,j<8→c.getD j false=true→b.getD j 0=mxL b:=fun j hj hcj=>by
  have:=bX.1 h.one j (by omega) (by omega)
  unfold gD at this
  rw[hcj,cond_true]at this
  simpa using this
 have hm:mxL (b.set i (mxL b))=mxL b:=by
  obtain⟨u1,u2⟩:=eZ (b.set i (mxL b))
  obtain⟨w1,-⟩:=eZ b
  have g:=u1 i (by rw[List.length_set];omega)
  rw[aU,if_pos ⟨rfl,by omega⟩]at g
  rcases u2 with u2|⟨j,hj,u2⟩
  ·omega
  ·rw[List.length_set]at hj
   rw[aU]at u2
   split at u2
   ·exact u2.symm
   ·have:=w1 j hj;omega
 have one': ∀j,j<8→(c.set i true).getD j false=true→(b.set i (mxL b)).getD j 0=mxL b:=fun j hj hcj=>by
  rw[aU]
  by_cases e:i=j
  ·rw[if_pos ⟨e,by omega⟩]
  ·rw[if_neg (fun x=>e x.1)]
   rw[d8,if_neg (fun x=>e x.1)]at hcj
   exact one j hj hcj
 have hone:c9 (gD (b.set i (mxL b)) (c.set i true)) 8 0=true:=bX.2 fun j _ hj=>by
  unfold gD
  cases hcj:(c.set i true).getD j false with
  |false=>rfl
  |true=>rw[cond_true,one' j (by omega) hcj,hm];simp
 have hmask:aR (b.set i (mxL b)) (c.set i true) (mxL b)=c.set i true:=by
  refine W6 false (by rw[bP,List.length_set,hc]) (by rw[List.length_set,hc]) fun j hj=> ?_
  rw[eF _ _ _ _ (by rw[List.length_set];omega)]
  cases hcj:(c.set i true).getD j false with
  |false=>rfl
  |true=>rw[one' j hj hcj];simp
 have F':Fit k (a.set i (c8 k (kK k a (flg c)) (i:Int))) (c.set i true) (kK k a (flg c)):=fun j hj hcj=>by
  rw[aU]
  by_cases e:i=j
  ·rw[if_pos ⟨e,by omega⟩,e]
  ·rw[if_neg (fun x=>e x.1)]
   rw[d8,if_neg (fun x=>e x.1)]at hcj
   exact F j hj hcj
 have hc':(c.set i true).length=8:=by rw[List.length_set,hc]
 have fits:=gA hk hc' F'
 have hb':=(pV hk hc h.bears).1 i hi
 have S':Sok k (a.set i (c8 k (kK k a (flg c)) (i:Int))) (b.set i (mxL b)) (c.set i true):=by
  refine⟨hk,by rw[List.length_set,ha],by rw[List.length_set,hb],hc',cU hf (g9 _ _ _),fun j hj hcj=> ?_,fun j hj hcj=> ?_⟩
  ·rw[one' j hj hcj,hmask]
   exact⟨aX.2 ⟨m1,m2⟩,fits⟩
  ·rw[d8]at hcj
   by_cases e:i=j
   ·rw[if_pos ⟨e,by omega⟩]at hcj;cases hcj
   ·rw[if_neg (fun x=>e x.1)]at hcj
    rw[aU,if_neg (fun x=>e x.1),aU,if_neg (fun x=>e x.1)]
    exact hno j hj hcj
 have hv:=xT S' hone (by rw[hm,hmask];exact hb')
 have O:One k (a.set i (c8 k (kK k a (flg c)) (i:Int))) (b.set i (mxL b)) (c.set i true):=⟨S',by unfold rdS;rw[hv],hone⟩
 refine⟨O, ?_,hm⟩
 have sh:=kE (b:=b) (vs:=mxL b) hc
 rw[gX,h.mask]at sh
 obtain⟨q1,q2⟩:=kU (a4C (w:=a) hk sh.1)
 rw[O.rdD,h.rdD]
 exact tR hk hc' hb' q2 q1 F'
theorem J0 {k:Int} {a b:List Int} {c:List Bool} (h:One k a b c) {i:Int} (hi:bet i 0 7=true):
  (mdB k a b c i=false→c.getD i.toNat false=true)∧(mdB k a b c i=true→mdA k a b c i=a.set i.toNat (c8 k (kK k a (flg c)) i)∧mdN k a b c i=b.set i.toNat (mxL b)∧mdC k a b c i=c.set i.toNat true):=by
 have hc:=h.s.hc
 obtain⟨-,e2⟩:=JB h.s.hk hi (b:=b) hc (mxL b)
 have eB:mdB k a b c i=isO (mdO k i b c (mxL b)):=by unfold mdB;rw[h.rd,cond_true,h.rdN]
 refine⟨fun hn=> ?_,fun hy=> ?_⟩
 ·cases hcc:c.getD i.toNat false with
  |true=>rfl
  |false=>
   have:=CG h.s.hk hi hc h.bears hcc
   rw[eB]at hn
   unfold mdO at hn
   rw[h.mask,this]at hn
   cases hn
 ·have eV:mdV k a b c i=c8 k (kK k a (flg c)) i:=by
   rw[eB]at hy
   unfold mdV
   rw[h.rdN]
   cases ho:mdO k i b c (mxL b)with
   |none=>rw[ho]at hy;cases hy
   |some y=>
    have p:=e2 y ho
    have v:=p.value (w:=a) (d:=kK k a (flg c)) (by rw[h.mask];exact h.fit)
    rw[p.same]at v
    have eb:byO k i (some y)=slA k i y:=by simp only[byO,jV,lsO,Option.isSome_some,Option.getD_some,cond_true]
    rw[eb,show lsO (some y)=y from rfl]
    exact v
  unfold mdA mdN mdC
  rw[hy,eV,h.rdN]
  exact⟨rfl,rfl,rfl⟩
theorem PK.oneK {x:PK} (h:x.ok=true) (ho:x.on=false):One x.k x.a x.b x.c:=⟨(x.offK h ho).s,(x.offK h ho).rd,(x.offK h ho).one⟩
theorem LT {x:PK} {i:Int} (h:x.ok=true) (ho:x.on=true) (hi:bet i 0 7=true):eY x i=shR x i∧nL x i=true:=by
 unfold eY nL
 rw[h,hi,ho];exact⟨rfl,rfl⟩
theorem J1 {x:PK} {i:Int} (h:x.ok=true) (ho:x.on=false) (hi:bet i 0 7=true):eY x i=mdK x i∧nL x i=mdB x.k x.a x.b x.c i:=by
 unfold eY nL
 rw[h,hi,ho];exact⟨rfl,rfl⟩
theorem CD {x:PK} {i:Int} (h:x.ok=true) (hi:bet i 0 7=true):(eY x i).ok=true∧(eY x i).rB=true∧(eY x i).rD=x.rD∧
  (nL x i=false→x.on=false∧x.c.getD i.toNat false=true∧eY x i=x)∧(nL x i=true→(eY x i).c.getD i.toNat false=true):=by
 have hi':=aX.1 hi
 obtain⟨-,la,lb,lc⟩:=l4 h
 cases ho:x.on with
 |true=>
  obtain⟨e1,e2⟩:=LT h ho hi
  obtain⟨S,f1,f2,f3,f4,f5,f6,-⟩:=A5 h ho hi
  rw[e1,e2]
  exact⟨S.ok,f1,f2,fun h=>(by cases h),fun _=>f6⟩
 |false=>
  obtain⟨e1,e2⟩:=J1 h ho hi
  have O:=x.oneK h ho
  have K:=x.offK h ho
  obtain⟨m1,m2⟩:=J0 O hi
  rw[e1,e2]
  cases hb:mdB x.k x.a x.b x.c i with
  |false=>
   have e:mdK x i=x:=by unfold mdK mdA mdN mdC;rw[hb];rfl
   rw[e]
   exact⟨h,JE h,rfl,fun _=>⟨rfl,m1 hb,rfl⟩,fun h=>by cases h⟩
  |true=>
   obtain⟨q1,q2,q3⟩:=m2 hb
   obtain⟨O',r1,r2⟩:=O.put (i:=i.toNat) (by omega)
   rw[show((i.toNat:Nat):Int)=i from by omega,←q1,←q2,←q3]at O'
   rw[show((i.toNat:Nat):Int)=i from by omega,←q1,←q2,←q3]at r1
   have ho':(mdK x i).on=false:=ho
   have ok':(mdK x i).ok=true:=l5 ho' ⟨O'.s,O'.rd,O'.one,K.kd0,K.d0,K.vs0⟩
   refine⟨ok',JE ok', ?_,fun h=>(by cases h),fun _=> ?_⟩
   ·rw[JF ok' ho',JF h ho];exact r1
   ·show(mdC x.k x.a x.b x.c i).getD i.toNat false=true
    rw[q3,d8,if_pos ⟨rfl,by omega⟩]
theorem XF (x:PK) (i:Int):(eY x i).a.length≤8∧(eY x i).b.length≤8∧(eY x i).c.length≤8∧(eY x i).d.length≤4:=by
 cases h:x.ok&&bet i 0 7 with
 |false=>unfold eY;rw[h];exact⟨by show 0≤8;omega,by show 0≤8;omega,by show 0≤8;omega,by show 0≤4;omega⟩
 |true=>
  rw[Bool.and_eq_true]at h
  obtain⟨q,-⟩:=CD h.1 h.2
  have:=l4 q
  omega
end Go.Proofs.YthapjdpkelihiaaGreat.Am
