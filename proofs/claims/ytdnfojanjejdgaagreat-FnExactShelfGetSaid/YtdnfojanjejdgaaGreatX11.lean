/- DERIVED. Part 11 of the proof: P5, C45, C46, C47, C48, C49, C50, C51, C52, P6. No statement of the program is proved here. -/
import Derived.Test.YtdnfojanjejdgaaGreatX10
set_option linter.unusedSimpArgs false
set_option linter.unusedVariables false
set_option linter.unusedSectionVars false
set_option linter.defProp false
namespace Go.Proofs.YtdnfojanjejdgaaGreat.Am
section
theorem LM {k:Int} {c:List Bool} (hk:bet k 1 2=true) (hc:c.length=8):G4 k (flg c) (spK k (flg c)).1 (spK k (flg c)).2.length=true∧G5 (eF k z8 (flg c)) (spK k (flg c)).2.length=true∧G6 k c (eF k z8 (flg c)) (spK k (flg c)).2.length=true:=
 LB (P:=fun k c=>G4 k (flg c) (spK k (flg c)).1 (spK k (flg c)).2.length=true∧G5 (eF k z8 (flg c)) (spK k (flg c)).2.length=true∧G6 k c (eF k z8 (flg c)) (spK k (flg c)).2.length=true) (f:=E9)
  (fun k c h=>LN h) U0 U1 U2 U3 hk hc
theorem ED {n:Nat} {zs:List Int} (hz:zs.length=n*5) {i j:Nat} {at_:Int} (hj:j<n) (hi:i<n) (hij:j≠i) {p:Nat} (hp:p<n):
  (n6 zs i at_ j).getD (p*5+4) 0=if p=j then(zs.getD (j*5+4) 0-zs.getD (i*5+4) 0*elC zs at_ j%31)%31 else zs.getD (p*5+4) 0:=by
 have r4: ∀p,p<n→(lN zs i at_ j).getD (p*5+4) 0=zs.getD (p*5+4) 0:=fun p hp=>by
  unfold lN N6
  rw[bC,if_neg (by omega),bC,if_neg (by omega),bC,if_neg (by omega),bC,if_neg (by omega)]
 have hl:(lN zs i at_ j).length=zs.length:=by simp[lN,N6]
 unfold n6
 by_cases e:p=j
 ·subst e
  rw[if_pos rfl,bC,if_pos ⟨rfl,by omega⟩,r4 p hp,r4 i hi]
 ·rw[if_neg e,bC,if_neg (by omega),r4 p hp]
def sG (n:Nat) (d zs:List Int):Prop:=zs.length=n*5∧ ∀j,j<n→zz (zs.getD (j*5+4) 0)=zz (zs.getD (j*5+0) 0)*zz (d.getD 0 0)+zz (zs.getD (j*5+1) 0)*zz (d.getD 1 0)+zz (zs.getD (j*5+2) 0)*zz (d.getD 2 0)+zz (zs.getD (j*5+3) 0)*zz (d.getD 3 0)
theorem sG.elim {n i j:Nat} {at_:Int} {d zs:List Int} (h:sG n d zs) (hi:i<n) (hj:j<n):sG n d (jJ i at_ j zs):=by
 obtain⟨h1,h2⟩:=h
 unfold jJ
 cases hb:((j:Int)!=(i:Int))&&(elC zs at_ j !=0)
 ·exact⟨h1,h2⟩
 ·have hij:j≠i:=by
   intro e;subst e;simp at hb
  rw[cond_true]
  refine⟨by rw[kT];exact h1,fun p hp=> ?_⟩
  rw[ED h1 hj hi hij hp,gH h1 hj hp (by omega),gH h1 hj hp (by omega),gH h1 hj hp (by omega),gH h1 hj hp (by omega)]
  by_cases e:p=j
  ·subst e
   simp only[if_true]
   unfold elE
   simp only[vI,ZJ,mT,gY,a8F,h2 p hp,h2 i hi]
   grind
  ·simp only[if_neg e]
   exact h2 p hp
theorem sG.red {n:Nat} {d:List Int}: ∀(f i:Nat) {zs:List Int},sG n d zs→i+f≤n→sG n d (bI (lG n) f i zs)
 |0,i,zs,h,_=>h
 |f+1,i,zs,h,hi=>by
  refine sG.red f (i+1) (zs:=lG n i zs) ?_ (by omega)
  exact aY (step:=jJ i (ld5 zs i)) (fun _ z=>sG n d z) n zs h fun j z hj hz=>hz.elim (by omega) hj
theorem JH (w v ys:List Int) (r:Nat):(lX w v ys r).length=r*5∧ ∀j,j<r→(∀q,q<4→(lX w v ys r).getD (j*5+q) 0=ys.getD (j*12+q) 0)∧(lX w v ys r).getD (j*5+4) 0=CL w v (lI ys j):=by
 refine aY (step:=jO w v ys) (fun i zs=>zs.length=i*5∧ ∀j,j<i→(∀q,q<4→zs.getD (j*5+q) 0=ys.getD (j*12+q) 0)∧zs.getD (j*5+4) 0=CL w v (lI ys j)) r [] ⟨rfl,fun j hj=>by omega⟩ fun k zs hk h=> ?_
 obtain⟨h1,h2⟩:=h
 refine⟨by simp[jO,h1];omega,fun j hj=>⟨fun q hq=> ?_, ?_⟩⟩
 ·unfold jO
  rw[dT,h1]
  by_cases e:j*5+q<k*5
  ·rw[if_pos e];exact(h2 j (by omega)).1 q hq
  ·rw[if_neg e]
   have:j=k:=by omega
   subst this
   rw[show j*5+q-j*5=q from by omega]
   match q,hq with
   |0,_|1,_|2,_|3,_=>rfl
 ·unfold jO
  rw[dT,h1]
  by_cases e:j*5+4<k*5
  ·rw[if_pos e];exact(h2 j (by omega)).2
  ·rw[if_neg e]
   have:j=k:=by omega
   subst this
   rw[show j*5+4-j*5=4 from by omega]
   rfl
theorem MY (ys:List Int) (i:Nat) {q:Nat} (hq:q<12):(lI ys i).getD q 0=ys.getD (i*12+q) 0:=by
 match q,hq with
 |0,_|1,_|2,_|3,_|4,_|5,_|6,_|7,_|8,_|9,_|10,_|11,_=>rfl
theorem BO (zs r:List Int): ∀n,(∀i,i<n→bet (ld5 zs i) 0 3=true)→(∀i,i<n→ ∀j,j<i→ld5 zs i≠ld5 zs j)→
  dz r (vR zs n)=eB (fun i=>zz (r.getD (ld5 zs i).toNat 0)*zz (zs.getD (i*5+4) 0)) n∧(vR zs n).length=4∧ ∀q:Nat,q<4→(∀i,i<n→ld5 zs i≠(q:Int))→(vR zs n).getD q 0=0
 |0,_,_=>⟨by
   show dz r [0,0,0,0]=0
   simp only[dz,List.getD_cons_zero,List.getD_cons_succ,l9];grind,rfl,fun q hq _=>by
   match q,hq with
   |0,_|1,_|2,_|3,_=>rfl⟩
 |n+1,hb,hd=>by
  obtain⟨i1,i2,i3⟩:=BO zs r n (fun i hi=>hb i (by omega)) (fun i hi j hj=>hd i (by omega) j hj)
  have e:vR zs (n+1)=(vR zs n).set (ld5 zs n).toNat (zs.getD (n*5+4) 0):=by
   have gen: ∀(f i:Nat) (o:List Int),bI (vS zs) (f+1) i o=vS zs (i+f) (bI (vS zs) f i o):=by
    intro f
    induction f with
    |zero=>intro i o;rfl
    |succ f ih=>intro i o;have:=ih (i+1) (vS zs i o);rw[show i+1+f=i+(f+1)from by omega]at this;exact this
   have:=gen n 0 [0,0,0,0]
   rw[Nat.zero_add]at this
   exact this
  have hbn:=bQ.1 (hb n (by omega))
  have z:(vR zs n).getD (ld5 zs n).toNat 0=0:=i3 (ld5 zs n).toNat (by omega) fun i hi he=>hd n (by omega) i hi (by omega)
  rw[e]
  refine⟨?_,by rw[List.length_set];exact i2,fun q hq hn=> ?_⟩
  ·simp only[eB]
   rw[←i1]
   have hp:(ld5 zs n).toNat<4:=by omega
   revert z hp
   generalize (ld5 zs n).toNat=p
   generalize zs.getD (n*5+4) 0=x
   intro z hp
   simp only[dz,bC,i2]
   match p,hp with
   |0,_=>simp[-List.getD_eq_getElem?_getD];rw[z,l9];grind
   |1,_=>simp[-List.getD_eq_getElem?_getD];rw[z,l9];grind
   |2,_=>simp[-List.getD_eq_getElem?_getD];rw[z,l9];grind
   |3,_=>simp[-List.getD_eq_getElem?_getD];rw[z,l9];grind
  ·rw[bC,if_neg (by have:=hn n (by omega);omega)]
   exact i3 q hq fun i hi=>hn i (by omega)
theorem P0 {k:Int} {w:List Int} {c:List Bool} {d:List Int} (hk:bet k 1 2=true) (hc:c.length=8) (h:Fit k w c d):Fit k w c (eR k w (flg c)):=by
 obtain⟨a1,a2,a3⟩:=LM hk hc
 obtain⟨so,re⟩:=uY (w:=w) (w':=z8) (xF (w:=z8) hk hc)
 simp only[dU,Bool.and_eq_true,rpS]at so
 obtain⟨t1,t2⟩:=JH w (flg c) (spK k (flg c)).1 (spK k (flg c)).2.length
 have sp:=zO hk (oT hc)
 have g0:sG (spK k (flg c)).2.length d (CG k w (flg c)):=by
  refine⟨t1,fun j hj=> ?_⟩
  obtain⟨u1,u2⟩:=t2 j hj
  unfold CG
  rw[u2,u1 0 (by omega),u1 1 (by omega),u1 2 (by omega),u1 3 (by omega),S3]
  have e:eB (fun j'=>zz ((lI (spK k (flg c)).1 j).getD (j'+4) 0)*zz (w.getD ((flg c).getD j' 0).toNat 0)) (flg c).length=eB (fun j'=>zz ((spK k (flg c)).1.getD (j*12+(j'+4)) 0)*dz (bH k ((flg c).getD j' 0)) d) (flg c).length:=by
   refine dH fun i hi=> ?_
   have hl:=nC c
   rw[MY _ _ (by omega)]
   obtain⟨a,ha,hca,hg⟩:=rP hc hi
   rw[hg,Int.toNat_natCast,←h a ha hca,i8]
  rw[e,rX (flg c).length _ (fun j'=>bH k ((flg c).getD j' 0)) [(spK k (flg c)).1.getD (j*12+0) 0,(spK k (flg c)).1.getD (j*12+1) 0,(spK k (flg c)).1.getD (j*12+2) 0,(spK k (flg c)).1.getD (j*12+3) 0] d fun q hq=> ?_]
  ·rfl
  ·have:=nJ (aX (aX a1 j hj) q hq)
   rw[jG]at this
   simp only[gY]at this
   rw[this]
   match q,hq with
   |0,_|1,_|2,_|3,_=>rfl
 have g1:sG (spK k (flg c)).2.length d (eF k w (flg c)):=sG.red _ 0 g0 (by omega)
 intro a ha hca
 refine vH (k6 _ _ _) (by rw[←h a ha hca];exact k6 _ _ _) ?_
 rw[i8,←h a ha hca,i8]
 have ld: ∀i,i<(spK k (flg c)).2.length→ld5 (eF k w (flg c)) i=ld5 (eF k z8 (flg c)) i:=fun i hi=>re.ld hi
 obtain⟨o1,-,-⟩:=BO (eF k w (flg c)) (bH k a) (spK k (flg c)).2.length (fun i hi=>aX so.2 i hi) (fun i hi j hj=>by
  have:=aX (aX a2 i hi) j hj
  rw[ld i hi,ld j (by omega)]
  simpa using this)
 unfold eR
 rw[o1]
 have e:eB (fun i=>zz ((bH k a).getD (ld5 (eF k w (flg c)) i).toNat 0)*zz ((eF k w (flg c)).getD (i*5+4) 0)) (spK k (flg c)).2.length=
   eB (fun i=>zz ((bH k a).getD (ld5 (eF k z8 (flg c)) i).toNat 0)*dz [(eF k z8 (flg c)).getD (i*5+0) 0,(eF k z8 (flg c)).getD (i*5+1) 0,(eF k z8 (flg c)).getD (i*5+2) 0,(eF k z8 (flg c)).getD (i*5+3) 0] d) (spK k (flg c)).2.length:=by
  refine dH fun i hi=> ?_
  rw[ld i hi,g1.2 i hi,re.2.2 i hi 0 (by omega),re.2.2 i hi 1 (by omega),re.2.2 i hi 2 (by omega),re.2.2 i hi 3 (by omega)]
  rfl
 rw[e]
 refine rX _ _ (fun i=>[(eF k z8 (flg c)).getD (i*5+0) 0,(eF k z8 (flg c)).getD (i*5+1) 0,(eF k z8 (flg c)).getD (i*5+2) 0,(eF k z8 (flg c)).getD (i*5+3) 0]) _ d fun q hq=> ?_
 have h3:=aX a3 a ha
 rw[hca,Bool.not_true,Bool.false_or]at h3
 have:=nJ (aX h3 q hq)
 rw[jG]at this
 simp only[gY]at this
 rw[←this]
 refine dH fun i hi=> ?_
 match q,hq with
 |0,_|1,_|2,_|3,_=>rfl
theorem qG {k:Int} {w:List Int} {c:List Bool} {d:List Int} (hk:bet k 1 2=true) (hc:c.length=8) (h:Fit k w c d):cH k w (flg c)=true:=(n8 hc).2 (P0 hk hc h)
end
section
noncomputable def T51:List aZ:=[⟨157,[],dW tt (aH T50) Tryz.f157 []⟩]++T50
theorem e51:aA Tryz.prog T51:=by
 refine aA.append ?_ e50
 intro e he
 simp only[List.mem_cons,List.not_mem_nil,or_false]at he
 subst he;exact M8
theorem t51:bL Tryz.prog (aH T51):=aQ e51
noncomputable abbrev r8:=Tryz.f159
noncomputable def A1 (k:Int) (a b:List Int) (c:List Bool) (x:Int) (n:Nat) (out:List Bool) (i:Int):St:=
 aS r8.ntmps [(1,.c (.int .i64 x)),(2,.c (.ptr 0 0 0 0)),(5,.c (.sl 1 0 n 1 none)),(6,.c (.int .i64 i))] [.live (.cells [.int .i64 k,.view none (.ints .i64 a) a.length 1 none,.view none (.ints .i64 b) b.length 1 none,.view none (.bools c) c.length 1 none]),.live (.bools out)]
noncomputable def NV (n:Nat) (out:List Bool):St:=aS r8.ntmps [(5,.c (.sl 0 0 n 1 none))] [.live (.bools out)]
def yZ (k:Int) (a b:List Int) (c:List Bool) (x:Int) (n:Nat) (out:List Bool) (i:Int):=bt6 (aM tt (aH T51) ([]) 0 100 (aC 0 (aB r8)) (A1 k a b c x n out i)) (aK 0 (aE r8 0) (aG r8 0)) (decide (n=out.length)&&((decide (n+1≤274877906944))&&true)) (↑c.length:Int) (c.getD i.toNat false) (IntKind.i64.wrap (i+1)) (P:=fun q0 q1 q2 q3 q4 q5=>q1 (q0 [(0,true),(0,true)])=
  some (.normal,(decide (i<q3)&&(decide (0≤i)&&(decide (i<q3)&&(decide (i.toNat<c.length)&&(rp4 q4 (decide (0≤i)&&(decide (i<(↑b.length:Int))&&(q4&&(decide (i.toNat<b.length)&&(rp2 q4 q2)))))))))),[],A1 k a b c x (n+1) (out++[bif c.getD i.toNat false then b.getD i.toNat 0==x else false]) q5)∧q1 (q0 [(0,true),(0,false)])=
  some (.normal,(decide (i<q3)&&(decide (0≤i)&&(decide (i<q3)&&(decide (i.toNat<c.length)&&(rp8 (!c.getD i.toNat false) q2))))),[],A1 k a b c x (n+1) (out++[false]) q5)∧q1 (q0 [(0,false)])=
  some (.exit 0,((!decide (i<q3))&&true),[],NV (n) (out))) ⟨by kernel_rfl,by kernel_rfl,by kernel_rfl⟩
def UW (k:Int) (a b:List Int) (c:List Bool) (x:Int) (n:Nat) (out:List Bool) (i:Int):=(yZ k a b c x n out i).1
def UX (k:Int) (a b:List Int) (c:List Bool) (x:Int) (n:Nat) (out:List Bool) (i:Int):=(yZ k a b c x n out i).2.1
def UY (k:Int) (a b:List Int) (c:List Bool) (x:Int) (n:Nat) (out:List Bool) (i:Int):=(yZ k a b c x n out i).2.2
noncomputable abbrev f58:=Tryz.f111
noncomputable def I58 (k:Int) (a b:List Int) (c:List Bool) (n i:Int):St:=aS f58.ntmps [(1,.c (.ptr 0 0 0 0)),(3,.c (.int .i64 n)),(4,.c (.int .i64 i))] [.live (.cells [.int .i64 k,.view none (.ints .i64 a) a.length 1 none,.view none (.ints .i64 b) b.length 1 none,.view none (.bools c) c.length 1 none])]
noncomputable def X58 (n:Int):St:=aS f58.ntmps [(3,.c (.int .i64 n))] []
theorem a2Q (k:Int) (a b:List Int) (c:List Bool) (n i:Int):aK 0 (aE f58 0) (aG f58 0) (aM tt (aH T51) ([]) 0 100 (aC 0 (aB f58)) (I58 k a b c n i) [(0,true)])=
  some (.normal,(decide (i<(↑b.length:Int))&&(decide (0≤i)&&(decide (i<(↑b.length:Int))&&((decide (i.toNat<b.length))&&true)))),[],I58 k a b c (if b.getD i.toNat 0>n then b.getD i.toNat 0 else n) (IntKind.i64.wrap (i+1))):=by kernel_rfl
theorem a2R (k:Int) (a b:List Int) (c:List Bool) (n i:Int):aK 0 (aE f58 0) (aG f58 0) (aM tt (aH T51) ([]) 0 100 (aC 0 (aB f58)) (I58 k a b c n i) [(0,false)])=
  some (.exit 0,((!decide (i<(↑b.length:Int)))&&true),[],X58 (n)):=by kernel_rfl
noncomputable abbrev f55:=Tryz.f108
noncomputable def I55 (v:List Int) (c:List Bool) (i:Int):St:=aS f55.ntmps [(0,.c (.view none (.ints .i64 v) v.length 1 none)),(1,.c (.view none (.bools c) c.length 1 none)),(5,.c (.int .i64 i))] []
noncomputable def X55 (v:List Int) (c:List Bool):St:=aS f55.ntmps [(0,.c (.view none (.ints .i64 v) v.length 1 none)),(1,.c (.view none (.bools c) c.length 1 none))] []
noncomputable def Y55 (v:List Int) (c:List Bool):St:=aS f55.ntmps [(0,.c (.view none (.ints .i64 v) v.length 1 none)),(1,.c (.view none (.bools c) c.length 1 none)),(4,.c (.bool false))] []
def ES (v:List Int) (c:List Bool) (i:Int):=bt3 (aM tt (aH T51) ([]) 0 100 (aC 0 (aB f55)) (I55 v c i)) (aK 0 (aE f55 0) (aG f55 0)) (↑v.length:Int) (P:=fun q0 q1 q2=>q1 (q0 [(0,true),(0,true)])=
  some (.ret,(decide (i<q2)&&(decide (0≤i)&&(decide (i<q2)&&(decide (i.toNat<v.length)&&((!fok (v.getD i.toNat 0))&&true))))),[],Y55 v c)∧q1 (q0 [(0,true),(0,false)])=
  some (.normal,(decide (i<q2)&&(decide (0≤i)&&(decide (i<q2)&&(decide (i.toNat<v.length)&&((!!fok (v.getD i.toNat 0))&&true))))),[],I55 v c (IntKind.i64.wrap (i+1)))∧q1 (q0 [(0,false)])=
  some (.exit 0,((!decide (i<q2))&&true),[],X55 v c)) ⟨by kernel_rfl,by kernel_rfl,by kernel_rfl⟩
def a2C (v:List Int) (c:List Bool) (i:Int):=(ES v c i).1
def a2D (v:List Int) (c:List Bool) (i:Int):=(ES v c i).2.1
def a2E (v:List Int) (c:List Bool) (i:Int):=(ES v c i).2.2
theorem a67 (k:Int) (a b:List Int) (c:List Bool) (on:Bool) (kd:Int) (d:List Int) (vs:Int):aJ tt (aH T51) ([]) 100 Tryz.f133 [.agg [.int .i64 k,.view none (.ints .i64 a) a.length 1 none,.view none (.ints .i64 b) b.length 1 none,.view none (.bools c) c.length 1 none,.bool on,.int .i64 kd,.view none (.ints .i64 d) d.length 1 none,.int .i64 vs]] [] []=
  some ⟨.agg [.int .i64 k,.sl 0 0 a.length 1 none,.sl 1 0 b.length 1 none,.sl 2 0 c.length 1 none,.bool on,.int .i64 kd,.sl 3 0 (0+d.length) 1 none,.int .i64 vs],[.live (.ints .i64 a),.live (.ints .i64 b),.live (.bools c),.live (.ints .i64 ([]++d))],(decide (a.length≤274877906944)&&(decide (b.length≤274877906944)&&(decide (c.length≤274877906944)&&((decide (0+d.length≤274877906944))&&true)))),[]⟩:=by kernel_rfl
def xQ:aO:=fun args h=>
 match args,h with
 |[.agg [.int .i64 k,.view _ (.ints .i64 a) n1 1 _,.view _ (.ints .i64 b) n2 1 _,.view _ (.bools c) n3 1 _,.bool on,.int .i64 kd,.view _ (.ints .i64 d) n4 1 _,.int .i64 vs]],[]=>
  some (.agg [.int .i64 k,.sl 0 0 a.length 1 none,.sl 1 0 b.length 1 none,.sl 2 0 c.length 1 none,.bool on,.int .i64 kd,.sl 3 0 d.length 1 none,.int .i64 vs],[.live (.ints .i64 a),.live (.ints .i64 b),.live (.bools c),.live (.ints .i64 d)],[decide (a.length≤274877906944),decide (b.length≤274877906944),decide (c.length≤274877906944),decide (d.length≤274877906944)])
 |_,_=>none
theorem m51:aT Tryz.prog 133 xQ:=by
 intro args h res h' o hnorm he ho
 unfold xQ at he
 split at he
 case h_2=>cases he
 rename_i k nl1 a n1 cap1 nl2 b n2 cap2 nl3 c n3 cap3 on kd nl4 d n4 cap4 vs
 simp only[Option.some.injEq,Prod.mk.injEq]at he
 obtain⟨rfl,rfl,rfl⟩:=he
 simp only[List.mem_cons,List.not_mem_nil,or_false,forall_eq_or_imp,forall_eq,decide_eq_true_eq]at ho
 obtain⟨o1,o2,o3,o4⟩:=ho
 simp only[b8,AV.norm,bA,aI.norm,Con.size,List.cons.injEq,AV.c.injEq,AV.agg.injEq,aI.view.injEq,aN,true_and,and_true]at hnorm
 obtain⟨⟨rfl,rfl,rfl⟩,⟨rfl,rfl,rfl⟩,⟨rfl,rfl,rfl⟩,rfl,rfl,rfl⟩:=hnorm
 have e:=a67 k a b c on kd d vs
 simp only[Nat.zero_add]at e
 exact mo t51 e (by simp[o1,o2,o3,o4])
theorem FA {v:List Bool} {n:Nat} (h:n<v.length):v.take (n+1)=v.take n++[v.getD n false]:=by
 rw[List.take_add_one,List.getD_eq_getElem?_getD,List.getElem?_eq_getElem h];rfl
def ofS (b:List Int) (c:List Bool) (x:Int) (i:Nat) (o:List Bool):List Bool:=o++[bif c.getD i false then b.getD i 0==x else false]
theorem PL (b:List Int) (c:List Bool) (x:Int):bI (ofS b c x) c.length 0 []=bJ b c x:=by
 have h:=aY (step:=ofS b c x) (fun i o=>o=(bJ b c x).take i) c.length [] (by simp) fun i o hi h=>by
  subst h
  unfold ofS
  rw[FA (by rw[bY];exact hi),fY b c x i hi]
  congr 2
  cases c.getD i false<;>simp[bne]
 rw[h,←bY b c x,List.take_length]
theorem a8T (k:Int) (a b:List Int) (c:List Bool) (x:Int) (hc:c.length≤274877906944) (hb:b.length=c.length):
  aP none Tryz.prog 0 (.block 0 (.loop (aC 0 (aB r8)))) (A1 k a b c x 0 [] 0) fun e t=>e=.normal∧t=NV c.length (bJ b c x):=by
 have key:=aP.count (ro:=none) hT t51 bE (m:=0) (id:=0) (body:=aC 0 (aB r8)) c.length (fun i o=>o.length=i) (fun i o=>A1 k a b c x o.length o i) (fun o=>NV o.length o) (ofS b c x) (aE r8 0) (aG r8 0)
  (fun _ _=>[]) (fun _ _ _ _=>aL.nil) (fun i o hi h=>⟨by simp[ofS,h], ?_⟩) (fun o h=>⟨_,_,⟨_,_,UY k a b c x o.length o c.length,by simp,by simp⟩⟩) [] rfl
 ·rw[PL,bY]at key;exact key
 ·unfold ofS
  rw[List.length_append]
  cases hq:c.getD i false with
  |true=>
   have e:=UW k a b c x o.length o i
   rw[aF (by omega) (by omega),Int.toNat_natCast,hq]at e
   refine⟨_,_,⟨_,_,e, ?_,by simp⟩⟩
   simp only[hq,bS,rpS]
   omega
  |false=>
   have e:=UX k a b c x o.length o i
   rw[aF (by omega) (by omega),Int.toNat_natCast]at e
   refine⟨_,_,⟨_,_,e, ?_,by simp⟩⟩
   simp only[hq,bS,rpS]
   omega
theorem XA (k:Int) (a b:List Int) (c:List Bool) (x:Int):aJ tt (aH T51) ([(0,⟨aE r8 0,A1 k a b c x 0 [] 0,.normal,NV c.length (bJ b c x)⟩)]) 100 r8 [.agg [.int .i64 k,.view none (.ints .i64 a) a.length 1 none,.view none (.ints .i64 b) b.length 1 none,.view none (.bools c) c.length 1 none],.c (.int .i64 x)] [] []=
  some ⟨.c (.sl 0 0 c.length 1 none),[.live (.bools (bJ b c x))],true,[A1 k a b c x 0 [] 0=A1 k a b c x 0 [] 0]⟩:=by kernel_rfl
def KB:aO:=fun args h=>
 match args,h with
 |[.agg [.int .i64 k,.view _ (.ints .i64 a) n1 1 _,.view _ (.ints .i64 b) n2 1 _,.view _ (.bools c) n3 1 _],.c (.int .i64 x)],[]=>
  some (.c (.sl 0 0 c.length 1 none),[.live (.bools (bJ b c x))],[decide (c.length≤274877906944),decide (b.length=c.length)])
 |_,_=>none
theorem a9U:aT Tryz.prog 159 KB:=by
 intro args h res h' o hnorm he ho
 unfold KB at he
 split at he
 case h_2=>cases he
 rename_i k nl1 a n1 cap1 nl2 b n2 cap2 nl3 c n3 cap3 x
 simp only[Option.some.injEq,Prod.mk.injEq]at he
 obtain⟨rfl,rfl,rfl⟩:=he
 simp only[List.mem_cons,List.not_mem_nil,or_false,forall_eq_or_imp,forall_eq,decide_eq_true_eq]at ho
 obtain⟨o1,o2⟩:=ho
 simp only[b8,AV.norm,bA,aI.norm,Con.size,List.cons.injEq,AV.c.injEq,AV.agg.injEq,aI.view.injEq,aN,true_and,and_true]at hnorm
 obtain⟨⟨rfl,rfl,rfl⟩,⟨rfl,rfl,rfl⟩,rfl,rfl,rfl⟩:=hnorm
 exact mo (fn:=r8) t51 (XA k a b c x) (by simp) (hlc:=(fun cc hcc=>aL.cons (c:=cc) (by cases hcc;kernel_rfl) (by cases hcc;exact a8T k a b c x o1 o2) aL.nil))
def mxS (b:List Int) (i:Nat) (n:Int):Int:=if b.getD i 0>n then b.getD i 0 else n
def mxL (b:List Int):Int:=bI (mxS b) b.length 0 0
theorem l58 (k:Int) (a b:List Int) (c:List Bool) (hb:b.length≤274877906944):
  aP none Tryz.prog 0 (.block 0 (.loop (aC 0 (aB f58)))) (I58 k a b c 0 0) fun e t=>e=.normal∧t=X58 (mxL b):=by
 refine aP.count (ro:=none) hT t51 bE (m:=0) (id:=0) (body:=aC 0 (aB f58)) b.length (fun _ _=>True) (fun i n=>I58 k a b c n i) X58 (mxS b) (aE f58 0) (aG f58 0)
  (fun _ _=>[]) (fun _ _ _ _=>aL.nil) (fun i n hi h=>⟨trivial, ?_⟩) (fun n h=>⟨_,_,⟨_,_,a2R k a b c n b.length,by simp,by simp⟩⟩) 0 trivial
 have e:=a2Q k a b c n i
 rw[aF (by omega) (by omega),Int.toNat_natCast]at e
 refine⟨_,_,⟨_,_,e, ?_,by simp⟩⟩
 simp only[bS,rpS]
 omega
theorem a6F (k:Int) (a b:List Int) (c:List Bool):aJ tt (aH T51) ([(0,⟨aE f58 0,I58 k a b c 0 0,.normal,X58 (mxL b)⟩)]) 100 f58 [.agg [.int .i64 k,.view none (.ints .i64 a) a.length 1 none,.view none (.ints .i64 b) b.length 1 none,.view none (.bools c) c.length 1 none]] [] []=
  some ⟨.c (.int .i64 (mxL b)),[],true,[I58 k a b c 0 0=I58 k a b c 0 0]⟩:=by kernel_rfl
def SK:aO:=fun args h=>
 match args,h with
 |[.agg [.int .i64 k,.view _ (.ints .i64 a) n1 1 _,.view _ (.ints .i64 b) n2 1 _,.view _ (.bools c) n3 1 _]],[]=>
  some (.c (.int .i64 (mxL b)),[],[decide (b.length≤274877906944)])
 |_,_=>none
theorem m58:aT Tryz.prog 111 SK:=by
 intro args h res h' o hnorm he ho
 unfold SK at he
 split at he
 case h_2=>cases he
 rename_i k nl1 a n1 cap1 nl2 b n2 cap2 nl3 c n3 cap3
 simp only[Option.some.injEq,Prod.mk.injEq]at he
 obtain⟨rfl,rfl,rfl⟩:=he
 simp only[List.mem_cons,List.not_mem_nil,or_false,forall_eq_or_imp,forall_eq,decide_eq_true_eq]at ho
 have o1:=ho
 simp only[b8,AV.norm,bA,aI.norm,Con.size,List.cons.injEq,AV.c.injEq,AV.agg.injEq,aI.view.injEq,aN,true_and,and_true]at hnorm
 obtain⟨⟨rfl,rfl,rfl⟩,⟨rfl,rfl,rfl⟩,rfl,rfl,rfl⟩:=hnorm
 exact mo (fn:=f58) t51 (a6F k a b c) (by simp) (hlc:=(fun cc hcc=>aL.cons (c:=cc) (by cases hcc;kernel_rfl) (by cases hcc;exact l58 k a b c o1) aL.nil))
theorem LE (v:List Int):cL (fun i=>fok (v.getD i 0)) v.length 0=aD v:=by
 rw[Bool.eq_iff_iff,cF]
 constructor
 ·intro h
  simp only[aD,List.all_eq_true]
  intro x hx
  obtain⟨i,hi⟩:=List.getElem?_of_mem hx
  have hlt:=(List.getElem?_eq_some_iff.1 hi).1
  have:=h i (by omega) (by omega)
  rw[List.getD_eq_getElem?_getD,hi]at this
  exact this
 ·intro h i _ _;exact aU h i
theorem l55 (v:List Int) (c:List Bool) (hv:v.length≤274877906944):
  aP none Tryz.prog 0 (.block 0 (.loop (aC 0 (aB f55)))) (I55 v c 0) fun e t=>e=(bif aD v then .normal else .ret)∧t=bif aD v then X55 v c else Y55 v c:=by
 have key:=aP.all (ro:=none) hT t51 bE (m:=0) (id:=0) (body:=aC 0 (aB f55)) v.length (fun i=>fok (v.getD i 0)) (fun i=>I55 v c i) (X55 v c) (Y55 v c) .ret (.inr rfl) (aE f55 0) (aG f55 0) (fun _=>[]) (fun _ _=>aL.nil) (fun i hi h=> ?_) (fun i hi h=> ?_)
  ⟨_,_,⟨_,_,a2E v c v.length,by simp,by simp⟩⟩
 ·rw[LE]at key;exact key
 ·have e:=a2D v c i
  rw[aF (by omega) (by omega),Int.toNat_natCast]at e
  refine⟨_,_,⟨_,_,e, ?_,by simp⟩⟩
  simp only[h,bS,rpS]
  omega
 ·have e:=a2C v c i
  rw[Int.toNat_natCast]at e
  rw[if_neg (by intro h;cases h)]
  refine⟨_,_,⟨_,_,e, ?_,by simp⟩⟩
  simp only[h,bS,rpS]
  omega
def NM (v:List Int) (c:List Bool):=bt2 (aJ tt (aH T51) ([(0,⟨aE f55 0,I55 v c 0,.normal,X55 v c⟩)]) 100 f55 [.c (.view none (.ints .i64 v) v.length 1 none),.c (.view none (.bools c) c.length 1 none)] []) (↑v.length:Int) (P:=fun q0 q1=>q0 [(0,true)]=
  some ⟨.c (.bool (bif q1==8 then(↑c.length:Int)==8 else false)),[],(rp3 (q1==8) true),[I55 v c 0=I55 v c 0]⟩∧q0 [(0,false)]=
  some ⟨.c (.bool false),[],(rp4 (!q1==8) true),[I55 v c 0=I55 v c 0]⟩) ⟨by kernel_rfl,by kernel_rfl⟩
def a68 (v:List Int) (c:List Bool):=(NM v c).1
def a69 (v:List Int) (c:List Bool):=(NM v c).2
theorem YV (v:List Int) (c:List Bool):aJ tt (aH T51) ([(0,⟨aE f55 0,I55 v c 0,.ret,Y55 v c⟩)]) 100 f55 [.c (.view none (.ints .i64 v) v.length 1 none),.c (.view none (.bools c) c.length 1 none)] [] []=
  some ⟨.c (.bool false),[],true,[I55 v c 0=I55 v c 0]⟩:=by kernel_rfl
end
section
def cT (v:List Int) (c:List Bool):Bool:=aD v&&(((v.length:Int)==8)&&((c.length:Int)==8))
def DK:aO:=fun args h=>
 match args,h with
 |[.c (.view _ (.ints .i64 v) n 1 _),.c (.view _ (.bools c) n2 1 _)],[]=>
  some (.c (.bool (cT v c)),[],[decide (v.length≤274877906944)])
 |_,_=>none
theorem m55:aT Tryz.prog 108 DK:=by
 intro args h res h' o hnorm he ho
 unfold DK at he
 split at he
 case h_2=>cases he
 rename_i nl v n cap nl2 c n2 cap2
 simp only[Option.some.injEq,Prod.mk.injEq]at he
 obtain⟨rfl,rfl,rfl⟩:=he
 simp only[List.mem_cons,List.not_mem_nil,or_false,forall_eq_or_imp,forall_eq,decide_eq_true_eq]at ho
 have o1:=ho
 simp only[b8,AV.norm,bA,aI.norm,Con.size,List.cons.injEq,AV.c.injEq,AV.agg.injEq,aI.view.injEq,aN,true_and,and_true]at hnorm
 obtain⟨⟨rfl,rfl,rfl⟩,rfl,rfl,rfl⟩:=hnorm
 have g:=l55 v c o1
 unfold cT
 cases hf:aD v with
 |false=>
  rw[hf]at g
  exact mo (fn:=f55) t51 (YV v c) (by simp) (hlc:=(fun cc hcc=>aL.cons (c:=cc) (by cases hcc;kernel_rfl) (by cases hcc;exact g) aL.nil))
 |true=>
  rw[hf]at g
  cases hv:(v.length:Int)==8 with
  |true=>
   have e:=a68 v c
   rw[hv]at e
   exact mo (fn:=f55) t51 e rfl (hlc:=(fun cc hcc=>aL.cons (c:=cc) (by cases hcc;kernel_rfl) (by cases hcc;exact g) aL.nil))
  |false=>exact mo (fn:=f55) t51 (a69 v c) (by rw[hv];rfl) (hlc:=(fun cc hcc=>aL.cons (c:=cc) (by cases hcc;kernel_rfl) (by cases hcc;exact g) aL.nil))
def cbB (k:Int) (c:List Bool):Bool:=bet k 1 2&&(((c.length:Int)==8)&&c8 k (flg c))
def SF:aO:=fun args h=>
 match args,h with
 |[.c (.int .i64 k),.c (.view _ (.bools c) n 1 _)],[]=>
  some (.c (.bool (cbB k c)),[],[])
 |_,_=>none
theorem a9V:aT Tryz.prog 160 SF:=by
 intro args h res h' o hnorm he ho
 unfold SF at he
 split at he
 case h_2=>cases he
 rename_i k nl c n cap
 simp only[Option.some.injEq,Prod.mk.injEq]at he
 obtain⟨rfl,rfl,rfl⟩:=he
 simp only[b8,AV.norm,bA,aI.norm,Con.size,List.cons.injEq,AV.c.injEq,AV.agg.injEq,aI.view.injEq,aN,true_and,and_true]at hnorm
 obtain⟨rfl,rfl,rfl⟩:=hnorm
 unfold cbB
 cases h1:bet k 1 2 with
 |false=>exact mo t50 (XD k c) (by simp[h1])
 |true=>
  cases h2:(c.length:Int)==8 with
  |false=>exact mo t50 (XC k c) (by rw[h1,h2];rfl)
  |true=>
   have hc:c.length=8:=by simp only[beq_iff_eq]at h2;omega
   obtain⟨p1,p2,p3,p4⟩:=AS h1 hc
   have hl:(rwL k c).length≤8:=aY (step:=rwS k c) (fun i o=>o.length≤i) 8 [] (by simp) fun i o _ h=>by
    unfold rwS
    cases c.getD i false
    ·rw[cond_false];omega
    ·simp;omega
   have e:=XB k c
   rw[h1,h2]at e
   simp only[cond_true,p4]at e
   exact mo t50 e (by simp only[h1,hc,p1,decide_true,rpS,bS];omega)
noncomputable def T52:List aZ:=[⟨159,[],nm KB⟩,⟨111,[],nm SK⟩,⟨108,[],nm DK⟩,⟨133,[],nm xQ⟩,⟨160,[],nm SF⟩]++T51
theorem e52:aA Tryz.prog T52:=by
 refine aA.append ?_ e51
 intro e he
 simp only[List.mem_cons,List.not_mem_nil,or_false]at he
 rcases he with rfl|rfl|rfl|rfl|rfl
 ·exact a9U.ok
 ·exact m58.ok
 ·exact m55.ok
 ·exact m51.ok
 ·exact a9V.ok
theorem t52:bL Tryz.prog (aH T52):=aQ e52
end
section
noncomputable abbrev f133:=Tryz.f204
noncomputable def vL (m:List (List Int)) (v:List Int) (n:Nat) (rows:List (List Int)) (i:Int):St:=
 aS f133.ntmps [(0,.c (.view none (.ivs .i64 m) m.length 1 none)),(1,.c (.view none (.ints .i64 v) v.length 1 none)),(6,.c (.sl 0 0 n 1 none)),(7,.c (.int .i64 i))] [.live (.ivs .i64 rows)]
noncomputable def KW (m:List (List Int)) (v:List Int) (n:Nat) (rows:List (List Int)):St:=
 aS f133.ntmps [(0,.c (.view none (.ivs .i64 m) m.length 1 none)),(1,.c (.view none (.ints .i64 v) v.length 1 none)),(6,.c (.sl 0 0 n 1 none))] [.live (.ivs .i64 rows)]
def GJ (m:List (List Int)) (v:List Int) (n:Nat) (rows:List (List Int)) (i:Int):=bt5 (↑m.length:Int) (List.replicate m.length (0:Int)) (aM tt (aH T52) ([]) 0 100 (aC 0 (aB f133)) (vL m v n rows i)) (m.getD i.toNat []) (aK 0 (aE f133 0) (aG f133 0)) (P:=fun q0 q1 q2 q3 q4=>q4 (q2 [(0,true)])=
  some (.normal,(decide (i<q0)&&(decide (q0≤q0)&&(decide (q0≤274877906944)&&(decide (0≤i)&&(decide (i<(↑q0.toNat:Int))&&(decide (i.toNat<q1.length)&&(decide (0≤i)&&(decide (i<q0)&&(decide (i.toNat<m.length)&&(decide (0+q3.length≤274877906944)&&(decide (q0.toNat=(q1.set i.toNat 1).length)&&(decide (0+q3.length=([]++m.getD i.toNat []).length)&&(decide (0+q3.length+q0.toNat≤274877906944)&&(decide (0+q3.length+q0.toNat=([]++m.getD i.toNat []++q1.set i.toNat 1).length)&&(decide (n=rows.length)&&((decide (n+1≤274877906944))&&true)))))))))))))))),[],vL m v (n+1) (rows++[[]++m.getD i.toNat []++q1.set i.toNat 1]) (IntKind.i64.wrap (i+1)))∧q4 (q2 [(0,false)])=
  some (.exit 0,((!decide (i<q0))&&true),[],KW m v (n) (rows))) ⟨by kernel_rfl,by kernel_rfl⟩
def VB (m:List (List Int)) (v:List Int) (n:Nat) (rows:List (List Int)) (i:Int):=(GJ m v n rows i).1
def VC (m:List (List Int)) (v:List Int) (n:Nat) (rows:List (List Int)) (i:Int):=(GJ m v n rows i).2
noncomputable def CP (n r:Nat) (rows:List (List Int)) (rest:List Int) (at':Int):St:=
 aS f133.ntmps [(6,.c (.sl 0 0 n 1 none)),(9,.c (.view none (.ints .i64 rest) r 1 none)),(10,.c (.int .i64 at'))] [.live (.ivs .i64 rows)]
noncomputable def qY (n r:Nat) (rows:List (List Int)) (rest:List Int) (at' i:Int):St:=
 aS f133.ntmps [(6,.c (.sl 0 0 n 1 none)),(9,.c (.view none (.ints .i64 rest) r 1 none)),(10,.c (.int .i64 at')),(11,.c (.int .i64 i))] [.live (.ivs .i64 rows)]
noncomputable def vJ (n r:Nat) (rows:List (List Int)) (rest:List Int) (at' i k:Int):St:=
 aS f133.ntmps [(6,.c (.sl 0 0 n 1 none)),(9,.c (.view none (.ints .i64 rest) r 1 none)),(10,.c (.int .i64 at')),(11,.c (.int .i64 i)),(12,.c (.int .i64 k))] [.live (.ivs .i64 rows)]
noncomputable def AH (n r:Nat) (rows:List (List Int)) (rest:List Int) (at' i:Int):St:=qY n r rows rest at' i
noncomputable def qA (n r:Nat) (rows:List (List Int)) (rest:List Int) (at':Int):St:=CP n r rows rest at'
noncomputable def w8 (r:Nat) (rest:List Int):St:=
 aS f133.ntmps [(9,.c (.view none (.ints .i64 rest) r 1 none))] []
def rR (n r:Nat) (rows:List (List Int)) (rest:List Int) (at' i k:Int):=bt7 (aM tt (aH T52) ([]) 0 100 (aC 6 (aB f133)) (vJ n r rows rest at' i k)) (rows.getD k.toNat []) (aK 0 (aE f133 6) (aG f133 6)) (↑n:Int) (rows.getD i.toNat []) (k !=i) (IntKind.i64.wrap (k+1)) (P:=fun q0 q1 q2 q3 q4 q5 q6=>q2 (q0 [(0,true),(0,true),(0,true)])=
  some (.normal,(decide (k<q3)&&(rp3 q5 (decide (0≤k)&&(decide (k<q3)&&(q5&&(decide (k.toNat<rows.length)&&(rp2 q5 (decide (0≤at')&&(decide (at'<(↑q1.length:Int))&&(q5&&(decide (at'.toNat<q1.length)&&(q5&&((bif k !=i then q1.getD at'.toNat 0 !=0 else false)&&(decide (0≤k)&&(decide (k<q3)&&(decide (k.toNat<rows.length)&&(decide (0≤i)&&(decide (i<q3)&&(decide (i.toNat<rows.length)&&(decide (q1.length≤274877906944)&&(decide (q1.length=q4.length)&&(aD q1&&(aD q4&&(decide (0≤bB q4)&&(decide (0≤k)&&(decide (k<q3)&&((decide (k.toNat<rows.length))&&true))))))))))))))))))))))))))),[],vJ (n) (r) (rows.set k.toNat (nlL q1 q4)) (rest) at' i q6)∧q2 (q0 [(0,true),(0,true),(0,false)])=
  some (.normal,(decide (k<q3)&&(rp3 q5 (decide (0≤k)&&(decide (k<q3)&&(q5&&(decide (k.toNat<rows.length)&&(rp2 q5 (decide (0≤at')&&(decide (at'<(↑q1.length:Int))&&(q5&&(decide (at'.toNat<q1.length)&&(q5&&((!bif k !=i then q1.getD at'.toNat 0 !=0 else false)&&true))))))))))))),[],vJ (n) (r) (rows) (rest) at' i q6)∧q2 (q0 [(0,true),(0,false)])=
  some (.normal,(decide (k<q3)&&(rp9 (!k !=i) true)),[],vJ (n) (r) (rows) (rest) at' i q6)∧q2 (q0 [(0,false)])=
  some (.exit 6,((!decide (k<q3))&&true),[],AH (n) (r) (rows) (rest) at' i)) ⟨by kernel_rfl,by kernel_rfl,by kernel_rfl,by kernel_rfl⟩
def UK (n r:Nat) (rows:List (List Int)) (rest:List Int) (at' i k:Int):=(rR n r rows rest at' i k).1
def UL (n r:Nat) (rows:List (List Int)) (rest:List Int) (at' i k:Int):=(rR n r rows rest at' i k).2.1
def UM (n r:Nat) (rows:List (List Int)) (rest:List Int) (at' i k:Int):=(rR n r rows rest at' i k).2.2.1
def UN (n r:Nat) (rows:List (List Int)) (rest:List Int) (at' i k:Int):=(rR n r rows rest at' i k).2.2.2
def byS (at' i:Nat) (k:Nat) (rows:List (List Int)):List (List Int):=
 bif ((k:Int)!=(i:Int))&&((rows.getD k []).getD at' 0 !=0)then rows.set k (nlL (rows.getD k []) (rows.getD i []))else rows
def byK (at' i:Nat) (rows:List (List Int)):List (List Int):=bI (byS at' i) rows.length 0 rows
def bX (L:Nat) (rows:List (List Int)):Bool:=rows.all fun r=>decide (r.length=L)&&aD r
def P3 (n r:Nat) (rows rows1:List (List Int)) (rest:List Int) (at' i:Int):=bt5 (aM tt (aH T52) ([(6,⟨aE f133 6,vJ n r rows rest at' i 0,.normal,AH n r rows1 rest at' i⟩)]) 0 100 (aC 4 (aB f133)) (qY n r rows rest at' i)) (aK 0 (aE f133 4) (aG f133 4)) (rows1.getD i.toNat []) (rows.getD i.toNat []) (↑n:Int) (P:=fun q0 q1 q2 q3 q4=>q1 (q0 [(0,true),(0,true)])=
  some (.exit 4,(decide (i<q4)&&(decide (0≤i)&&(decide (i<q4)&&(decide (i.toNat<rows.length)&&(decide (q3.length≤274877906944)&&((bB q3==at')&&(decide (0≤i)&&(decide (i<q4)&&(decide (i.toNat<rows1.length)&&(decide (rest.length≤274877906944)&&(decide (rest.length=q2.length)&&(aD rest&&(aD q2&&((decide (0≤bB q2))&&true)))))))))))))),[vJ n r rows rest at' i 0=vJ n r rows rest at' i 0],qA (n) (rest.length) (rows1) (nlL rest q2) at')∧q1 (q0 [(0,true),(0,false)])=
  some (.normal,(decide (i<q4)&&(decide (0≤i)&&(decide (i<q4)&&(decide (i.toNat<rows.length)&&(decide (q3.length≤274877906944)&&((!bB q3==at')&&true)))))),[],qY (n) (r) (rows) (rest) at' (IntKind.i64.wrap (i+1)))∧q1 (q0 [(0,false)])=
  some (.exit 4,((!decide (i<q4))&&true),[],qA (n) (r) (rows) (rest) at')) ⟨by kernel_rfl,by kernel_rfl,by kernel_rfl⟩
def UC (n r:Nat) (rows rows1:List (List Int)) (rest:List Int) (at' i:Int):=(P3 n r rows rows1 rest at' i).1
theorem P4 (n r:Nat) (rows:List (List Int)) (rest:List Int) (at' i:Int):aK 0 (aE f133 4) (aG f133 4) (aM tt (aH T52) ([]) 0 100 (aC 4 (aB f133)) (qY n r rows rest at' i) [(0,true),(0,false)])=
  some (.normal,(decide (i<(↑n:Int))&&(decide (0≤i)&&(decide (i<(↑n:Int))&&(decide (i.toNat<rows.length)&&(decide ((rows.getD i.toNat []).length≤274877906944)&&((!bB (rows.getD i.toNat [])==at')&&true)))))),[],qY (n) (r) (rows) (rest) at' (IntKind.i64.wrap (i+1))):=by kernel_rfl
theorem P5 (n r:Nat) (rows:List (List Int)) (rest:List Int) (at' i:Int):aK 0 (aE f133 4) (aG f133 4) (aM tt (aH T52) ([]) 0 100 (aC 4 (aB f133)) (qY n r rows rest at' i) [(0,false)])=
  some (.exit 4,((!decide (i<(↑n:Int)))&&true),[],qA (n) (r) (rows) (rest) at'):=by kernel_rfl
theorem TL (n r:Nat) (rows rows1:List (List Int)) (rest rest1:List Int) (at':Int):aK 0 (aE f133 2) (aG f133 2) (aM tt (aH T52) ([(4,⟨aE f133 4,qY n r rows rest at' 0,.normal,qA n r rows1 rest1 at'⟩)]) 0 100 (aC 2 (aB f133)) (CP n r rows rest at') [(0,true)])=
  some (.normal,((decide (at'<4))&&true),[qY n r rows rest at' 0=qY n r rows rest at' 0],CP (n) (r) (rows1) (rest1) (IntKind.i64.wrap (at'+1))):=by kernel_rfl
theorem TM (n r:Nat) (rows rows1:List (List Int)) (rest rest1:List Int) (at':Int) (lcv:List (Nat×LC)):aK 0 (aE f133 2) (aG f133 2) (aM tt (aH T52) (lcv) 0 100 (aC 2 (aB f133)) (CP n r rows rest at') [(0,false)])=
  some (.exit 2,((!decide (at'<4))&&true),[],w8 (r) (rest)):=by kernel_rfl
end
section
theorem fP {L:Nat} {rows:List (List Int)} (h:bX L rows=true) {i:Nat} (hi:i<rows.length):(rows.getD i []).length=L∧aD (rows.getD i [])=true:=by
 rw[List.getD_eq_getElem?_getD,List.getElem?_eq_getElem hi]
 have:=List.all_eq_true.1 h _ (List.getElem_mem hi)
 simpa only[Bool.and_eq_true,decide_eq_true_eq,Option.getD_some]using this
theorem F3 {L:Nat} {rows:List (List Int)} (h:bX L rows=true) {i:Nat} {v:List Int} (h1:v.length=L) (h2:aD v=true):bX L (rows.set i v)=true:=by
 unfold bX at h⊢
 rw[List.all_eq_true]at h⊢
 intro y hy
 rcases List.mem_or_eq_of_mem_set hy with h'|h'
 ·exact h y h'
 ·subst h';simp[h1,h2]
theorem mP {L:Nat} {rows:List (List Int)} (h:bX L rows=true) {v:List Int} (h1:v.length=L) (h2:aD v=true):bX L (rows++[v])=true:=by
 unfold bX at h⊢
 simp[List.all_append,h,h1,h2]
def CJ (n i:Nat):List Int:=(List.replicate n (0:Int)).set i 1
theorem JJ (n i:Nat):(CJ n i).length=n:=by simp[CJ]
theorem m9 (n:Nat):aD (List.replicate n (0:Int))=true:=by
 simp only[aD,List.all_eq_true]
 intro x hx
 rw[(List.mem_replicate.1 hx).2];rfl
theorem JI (n i:Nat):aD (CJ n i)=true:=dG (m9 n) rfl
def bwS (m:List (List Int)) (i:Nat) (o:List (List Int)):List (List Int):=o++[m.getD i []++CJ m.length i]
def bwL (m:List (List Int)):List (List Int):=bI (bwS m) m.length 0 []
theorem yG {m:List (List Int)} (hm:bX 4 m=true):(bwL m).length=m.length∧bX (4+m.length) (bwL m)=true:=
 aY (step:=bwS m) (fun i o=>o.length=i∧bX (4+m.length) o=true) m.length [] ⟨rfl,rfl⟩ fun i o hi h=>by
  obtain⟨g1,g2⟩:=fP hm hi
  exact⟨by simp[bwS,h.1],mP h.2 (by rw[List.length_append,g1,JJ]) (eC g2 (JI _ _))⟩
theorem a8Z (m:List (List Int)) (v:List Int) (hn:m.length≤1000) (hm:bX 4 m=true):
  aP none Tryz.prog 0 (.block 0 (.loop (aC 0 (aB f133)))) (vL m v 0 [] 0) fun e t=>e=.normal∧t=KW m v m.length (bwL m):=by
 have key:=aP.count (ro:=none) hT t52 bE (m:=0) (id:=0) (body:=aC 0 (aB f133)) m.length (fun i o=>o.length=i) (fun i o=>vL m v o.length o i) (fun o=>KW m v o.length o) (bwS m) (aE f133 0) (aG f133 0)
  (fun _ _=>[]) (fun _ _ _ _=>aL.nil) (fun i o hi h=>⟨by simp[bwS,h], ?_⟩) (fun o h=>⟨_,_,⟨_,_,VC m v o.length o m.length,by simp,by simp⟩⟩) [] rfl
 ·have hb:=(yG hm).1
  unfold bwL at hb
  rw[hb]at key;exact key
 ·obtain⟨g1,g2⟩:=fP hm hi
  have e:=VB m v o.length o i
  rw[aF (by omega) (by omega),Int.toNat_natCast]at e
  unfold bwS
  rw[List.length_append,CJ]
  refine⟨_,_,⟨_,_,e, ?_,by simp⟩⟩
  simp only[List.nil_append,List.length_append,List.length_set,List.length_replicate,Int.toNat_natCast,g1,bS,rpS]
  omega
theorem G2 {L n at' i k:Nat} {rows:List (List Int)} (h:rows.length=n∧bX L rows=true) (hk:k<n):(byS at' i k rows).length=n∧bX L (byS at' i k rows)=true:=by
 unfold byS
 cases ((k:Int)!=(i:Int))&&((rows.getD k []).getD at' 0 !=0)
 ·exact h
 ·rw[cond_true]
  obtain⟨g1,g2⟩:=fP h.2 (i:=k) (by omega)
  exact⟨by rw[List.length_set];exact h.1,F3 h.2 (by rw[kY];exact g1) (rS _ _)⟩
theorem LJ {at' i k:Nat} {rows:List (List Int)}:(byS at' i k rows).getD i []=rows.getD i []:=by
 unfold byS
 cases h:((k:Int)!=(i:Int))&&((rows.getD k []).getD at' 0 !=0)
 ·rfl
 ·rw[Bool.and_eq_true]at h
  have hne:k≠i:=by
   intro e;subst e;simp at h
  rw[cond_true,List.getD_eq_getElem?_getD,List.getElem?_set_ne hne,←List.getD_eq_getElem?_getD]
theorem G1 {L at' i:Nat} {rows:List (List Int)} (h:bX L rows=true):(byK at' i rows).length=rows.length∧bX L (byK at' i rows)=true∧(byK at' i rows).getD i []=rows.getD i []:=by
 have:=aY (step:=byS at' i) (fun _ o=>(o.length=rows.length∧bX L o=true)∧o.getD i []=rows.getD i []) rows.length rows ⟨⟨rfl,h⟩,rfl⟩ fun k o hk h=>⟨G2 h.1 hk,by rw[LJ];exact h.2⟩
 exact⟨this.1.1,this.1.2,this.2⟩
theorem a1K (n r:Nat) (rows:List (List Int)) (rest:List Int) (at' i L:Nat) (hL:L≤2000) (ha:at'<L) (hn:n≤1000) (hr:rows.length=n) (ho:bX L rows=true) (hi:i<n) (h0:bB (rows.getD i [])=(at':Int)):
  aP none Tryz.prog 0 (.block 6 (.loop (aC 6 (aB f133)))) (vJ n r rows rest at' i 0) fun e t=>e=.normal∧t=AH n r (byK at' i rows) rest at' i:=by
 have key:=aP.count (ro:=none) hT t52 bE (m:=0) (id:=6) (body:=aC 6 (aB f133)) n (fun _ o=>(o.length=n∧bX L o=true)∧o.getD i []=rows.getD i []) (fun k o=>vJ n r o rest at' i k) (fun o=>AH n r o rest at' i) (byS at' i) (aE f133 6) (aG f133 6)
  (fun _ _=>[]) (fun _ _ _ _=>aL.nil) (fun k o hk h=>⟨⟨G2 h.1 hk,by rw[LJ];exact h.2⟩, ?_⟩) (fun o h=>⟨_,_,⟨_,_,UN n r o rest at' i n,by simp,by simp⟩⟩) rows ⟨⟨hr,ho⟩,rfl⟩
 ·unfold byK;rw[hr];exact key
 ·obtain⟨⟨h1,h2⟩,h3⟩:=h
  obtain⟨g1,g2⟩:=fP h2 (i:=k) (by omega)
  obtain⟨g3,g4⟩:=fP h2 (i:=i) (by omega)
  have g5:0≤bB (o.getD i []):=by rw[h3,h0];omega
  unfold byS
  cases c1:((k:Int)!=(i:Int))with
  |false=>
   have e:=UM n r o rest at' i k
   rw[aF (by omega) (by omega)]at e
   refine⟨_,_,⟨_,_,e, ?_,by simp⟩⟩
   simp only[c1,bS,rpS]
   omega
  |true=>
   cases c2:((o.getD k []).getD at' 0 !=0)with
   |false=>
    have e:=UL n r o rest at' i k
    rw[aF (by omega) (by omega),Int.toNat_natCast,Int.toNat_natCast]at e
    refine⟨_,_,⟨_,_,e, ?_,by simp⟩⟩
    simp only[c1,c2,g1,bS,rpS]
    omega
   |true=>
    have e:=UK n r o rest at' i k
    rw[aF (by omega) (by omega),Int.toNat_natCast,Int.toNat_natCast,Int.toNat_natCast]at e
    refine⟨_,_,⟨_,_,e, ?_,by simp⟩⟩
    simp only[c1,c2,g1,g2,g3,g4,g5,bS,rpS]
    omega
def byF (rows:List (List Int)) (at':Nat) (i:Nat) (_:Unit):Unit⊕Nat:=bif bB (rows.getD i [])==(at':Int)then .inr i else .inl ()
def byT (at':Nat) (s:List (List Int)×List Int):List (List Int)×List Int:=match cG (byF s.1 at') s.1.length 0 ()with
 |.inl _=>s
 |.inr i=>(byK at' i s.1,nlL s.2 ((byK at' i s.1).getD i []))
theorem rM {L n at':Nat} {s:List (List Int)×List Int} (h:(s.1.length=n∧bX L s.1=true)∧s.2.length=L∧aD s.2=true):((byT at' s).1.length=n∧bX L (byT at' s).1=true)∧(byT at' s).2.length=L∧aD (byT at' s).2=true:=by
 unfold byT
 split
 ·exact h
 ·obtain⟨q1,q2,q3⟩:=G1 (at':=at') (i:= ‹Nat›) h.1.2
  exact⟨⟨by rw[q1];exact h.1.1,q2⟩,by rw[kY];exact h.2.1,rS _ _⟩
theorem OP:aC 6 (aC 4 (aB f133))=aC 6 (aB f133):=by kernel_rfl
theorem OO:aC 4 (aC 2 (aB f133))=aC 4 (aB f133):=by kernel_rfl
theorem a1F (n r:Nat) (rows:List (List Int)) (rest:List Int) (at' L:Nat) (hL:L≤2000) (ha:at'<L) (hn:n≤1000) (hr:rows.length=n) (ho:bX L rows=true) (hrr:r=rest.length) (h1:rest.length=L) (h2:aD rest=true):
  aP none Tryz.prog 0 (.block 4 (.loop (aC 4 (aB f133)))) (qY n r rows rest at' 0) fun e t=>e=.normal∧t=qA n (byT at' (rows,rest)).2.length (byT at' (rows,rest)).1 (byT at' (rows,rest)).2 at':=by
 subst hrr
 have key:=aP.countE (ro:=none) hT t52 bE (m:=0) (id:=4) (body:=aC 4 (aB f133)) (β:=Unit) (γ:=Nat) n (fun _ _=>True) (fun i _=>qY n rest.length rows rest at' i) (fun _=>qA n rest.length rows rest at')
  (fun i=>qA n rest.length (byK at' i rows) (nlL rest ((byK at' i rows).getD i [])) at') .normal (.inl rfl) (byF rows at') (aE f133 4) (aG f133 4)
  (fun i _=>bif bB (rows.getD i [])==(at':Int)then [(6,⟨aE f133 6,vJ n rest.length rows rest at' i 0,.normal,AH n rest.length (byK at' i rows) rest at' i⟩)]else [])
  (fun i _ hi _=> ?_) (fun i _ hi _=> ?_) (fun _ _=>⟨_,_,⟨_,_,P5 n rest.length rows rest at' n,by simp,by simp⟩⟩) () trivial
 ·refine aP.mono key fun e t h=> ?_
  unfold byT
  dsimp only
  rw[hr]
  revert h
  cases cG (byF rows at') n 0 ()with
  |inl x=>exact fun h=>h
  |inr i=>exact fun h=>by dsimp only at h⊢;rw[kY];exact h
 ·cases c1:bB (rows.getD i [])==(at':Int)with
  |false=>exact aL.nil
  |true=>exact aL.cons (by kernel_rfl) (by rw[OP];exact a1K n rest.length rows rest at' i L hL ha hn hr ho hi (by simpa using c1)) aL.nil
 ·obtain⟨g1,g2⟩:=fP ho (i:=i) (by omega)
  cases c1:bB (rows.getD i [])==(at':Int)with
  |true=>
   obtain⟨q1,q2,q3⟩:=G1 (at':=at') (i:=i) ho
   refine .inr ⟨i,by unfold byF;rw[c1];rfl, ?_⟩
   rw[cond_true,if_pos rfl]
   have e:=UC n rest.length rows (byK at' i rows) rest at' i
   rw[Int.toNat_natCast,q3]at e
   rw[q3]
   refine⟨_,_,⟨_,_,e, ?_,by simp⟩⟩
   have c2:bB (rows.getD i [])=(at':Int):=by simpa using c1
   simp only[g1,g2,h1,h2,q1,c2,beq_self_eq_true,bS,rpS]
   omega
  |false=>
   refine .inl ⟨(),by unfold byF;rw[c1];rfl,trivial, ?_⟩
   rw[cond_false]
   have e:=P4 n rest.length rows rest at' i
   rw[aF (by omega) (by omega),Int.toNat_natCast]at e
   refine⟨_,_,⟨_,_,e, ?_,by simp⟩⟩
   simp only[c1,g1,bS,rpS]
   omega
def byE (m:List (List Int)) (v:List Int):List (List Int)×List Int:=bI byT 4 0 (bwL m,v++List.replicate m.length 0)
theorem G0 {m:List (List Int)} {v:List Int} (hm:bX 4 m=true) (h1:v.length=4) (h2:aD v=true):((byE m v).1.length=m.length∧bX (4+m.length) (byE m v).1=true)∧(byE m v).2.length=4+m.length∧aD (byE m v).2=true:=
 aY (step:=byT) (fun _ s=>(s.1.length=m.length∧bX (4+m.length) s.1=true)∧s.2.length=4+m.length∧aD s.2=true) 4 (bwL m,v++List.replicate m.length 0)
  ⟨yG hm,by simp[h1],eC h2 (m9 _)⟩ fun i s _ h=>rM h
theorem a1D (m:List (List Int)) (v:List Int) (hn:m.length≤1000) (hm:bX 4 m=true) (h1:v.length=4) (h2:aD v=true):
  aP none Tryz.prog 0 (.block 2 (.loop (aC 2 (aB f133)))) (CP m.length (v++List.replicate m.length 0).length (bwL m) (v++List.replicate m.length 0) 0) fun e t=>e=.normal∧t=w8 (byE m v).2.length (byE m v).2:=by
 have i0:((bwL m).length=m.length∧bX (4+m.length) (bwL m)=true)∧(v++List.replicate m.length 0).length=4+m.length∧aD (v++List.replicate m.length 0)=true:=⟨yG hm,by simp[h1],eC h2 (m9 _)⟩
 refine aP.count (ro:=none) hT t52 bE (m:=0) (id:=2) (body:=aC 2 (aB f133)) 4 (fun _ s=>(s.1.length=m.length∧bX (4+m.length) s.1=true)∧s.2.length=4+m.length∧aD s.2=true) (fun i s=>CP m.length s.2.length s.1 s.2 i) (fun s=>w8 s.2.length s.2) byT (aE f133 2) (aG f133 2)
  (fun i s=>[(4,⟨aE f133 4,qY m.length s.2.length s.1 s.2 i 0,.normal,qA m.length s.2.length (byT i s).1 (byT i s).2 i⟩)])
  (fun i s hi h=>aL.cons (by kernel_rfl) (by rw[OO];have:=a1F m.length s.2.length s.1 s.2 i (4+m.length) (by omega) (by omega) hn h.1.1 h.1.2 rfl h.2.1 h.2.2;rw[(rM (at':=i) h).2.1,←h.2.1]at this;exact this) aL.nil)
  (fun i s hi h=>⟨rM h, ?_⟩) (fun s h=>⟨_,_,⟨_,_,TM m.length s.2.length s.1 s.1 s.2 s.2 (4:Nat) [],by simp,by simp⟩⟩) (bwL m,v++List.replicate m.length 0) i0
 have e:=TL m.length s.2.length s.1 (byT i s).1 s.2 (byT i s).2 i
 rw[aF (by omega) (by omega)]at e
 rw[(rM (at':=i) h).2.1,←h.2.1]
 refine⟨_,_,⟨_,_,e, ?_,by simp⟩⟩
 simp only[bS,rpS]
 omega
noncomputable def vM (n r:Nat) (rows:List (List Int)) (rest:List Int):St:=
 aS f133.ntmps [(6,.c (.sl 0 0 n 1 none)),(9,.c (.sl 1 0 r 1 none)),(10,.c (.int .i64 0))] [.live (.ivs .i64 rows),.live (.ints .i64 rest)]
theorem a1H (m:List (List Int)) (v:List Int) (hn:m.length≤1000) (hm:bX 4 m=true) (h1:v.length=4) (h2:aD v=true):
  aP none Tryz.prog 0 (.block 2 (.loop (aC 2 (aB f133)))) (vM m.length (0+v.length+m.length) (bwL m) (v++List.replicate m.length 0)) fun e t=>e=.normal∧t=w8 (byE m v).2.length (byE m v).2:=by
 have hl:0+v.length+m.length=(v++List.replicate m.length (0:Int)).length:=by simp
 rw[hl]
 have g:=a1D m v hn hm h1 h2
 revert g
 generalize (v++List.replicate m.length (0:Int))=rest
 intro g
 have e:fit 0 (aE f133 2) ⟨(vM m.length rest.length (bwL m) rest).tmps.set 9 (.c (.view none (.ints .i64 rest) rest.length 1 none)),(vM m.length rest.length (bwL m) rest).heap.set 1 .dead⟩=CP m.length rest.length (bwL m) rest 0:=by kernel_rfl
 have w:=(fC.froz 0 9 1 (s:=vM m.length rest.length (bwL m) rest) (len:=rest.length) (es:=1) (cap:=none) (c:=.ints .i64 rest) rfl rfl rfl (Nat.mul_one _)).trans (fC.fit 0 (aE f133 2) _)
 rw[e]at w
 exact g.pre w
def byB (m:List (List Int)) (v:List Int):Bool:= !bet (bB (byE m v).2) 0 3
def byD (m:List (List Int)) (v:List Int):List Int:=bif bet (bB (byE m v).2) 0 3 then []else dX ((byE m v).2.drop 4) 30
noncomputable def TC:List aZ:=[⟨241,[],rI⟩]++T52
theorem a8Q:aA Tryz.prog TC:=by
 refine aA.append ?_ e52
 intro e he
 simp only[List.mem_cons,List.not_mem_nil,or_false]at he
 subst he;exact UR t5
theorem a4V:bL Tryz.prog (aH TC):=aQ a8Q
def GX (m rows:List (List Int)) (v rest:List Int):=bt4 (aJ tt (aH TC) ([(0,⟨aE f133 0,vL m v 0 [] 0,.normal,KW m v m.length rows⟩),(2,⟨aE f133 2,vM m.length (0+v.length+m.length) rows (v++List.replicate m.length (0:Int)),.normal,w8 rest.length rest⟩)]) 100 f133 [.c (.view none (.ivs .i64 m) m.length 1 none),.c (.view none (.ints .i64 v) v.length 1 none)] []) (v++List.replicate m.length (0:Int)) (List.drop 4 rest) (↑m.length:Int) (P:=fun q0 q1 q2 q3=>q0 [(0,true)]=
  some ⟨.tup [.c (.sl 0 0 0 1 none),.c (.bool false)],[.live (.ints .i64 [])],(decide (0+v.length≤274877906944)&&(decide (0+v.length=([]++v).length)&&(decide ((↑(0+v.length):Int)+q3≤274877906944)&&(decide (rest.length≤274877906944)&&((bet (bB rest) 0 3)&&true))))),[vL m v 0 [] 0=vL m v 0 [] 0,vM m.length (0+v.length+m.length) rows q1=vM m.length (0+v.length+m.length) rows q1]⟩∧q0 [(0,false)]=
  some ⟨.tup [.c (.sl 0 0 q2.length 1 none),.c (.bool true)],[.live (.ints .i64 (dX q2 30))],(decide (0+v.length≤274877906944)&&(decide (0+v.length=([]++v).length)&&(decide ((↑(0+v.length):Int)+q3≤274877906944)&&(decide (rest.length≤274877906944)&&(!bet (bB rest) 0 3&&(decide (4≤(↑rest.length:Int))&&(decide (q2.length≤274877906944)&&((aD q2)&&true)))))))),[vL m v 0 [] 0=vL m v 0 [] 0,vM m.length (0+v.length+m.length) rows q1=vM m.length (0+v.length+m.length) rows q1]⟩) ⟨by kernel_rfl,by kernel_rfl⟩
def XT (m rows:List (List Int)) (v rest:List Int):=(GX m rows v rest).1
def XU (m rows:List (List Int)) (v rest:List Int):=(GX m rows v rest).2
def SE:aO:=fun args h=>
 match args,h with
 |[.c (.view _ (.ivs .i64 m) n 1 _),.c (.view _ (.ints .i64 v) n2 1 _)],[]=>
  some (.tup [.c (.sl 0 0 (byD m v).length 1 none),.c (.bool (byB m v))],[.live (.ints .i64 (byD m v))],[decide (m.length≤1000),bX 4 m,decide (v.length=4),aD v])
 |_,_=>none
theorem AK {v:List Int} (h:aD v=true) (n:Nat):aD (v.drop n)=true:=by
 simp only[aD,List.all_eq_true]at h⊢
 exact fun x hx=>h x (List.mem_of_mem_drop hx)
theorem aAF:aT Tryz.prog 204 SE:=by
 intro args h res h' o hnorm he ho
 unfold SE at he
 split at he
 case h_2=>cases he
 rename_i nl m n cap nl2 v n2 cap2
 simp only[Option.some.injEq,Prod.mk.injEq]at he
 obtain⟨rfl,rfl,rfl⟩:=he
 simp only[List.mem_cons,List.not_mem_nil,or_false,forall_eq_or_imp,forall_eq,decide_eq_true_eq]at ho
 obtain⟨o1,o2,o3,o4⟩:=ho
 simp only[b8,AV.norm,bA,aI.norm,Con.size,List.cons.injEq,AV.c.injEq,AV.agg.injEq,aI.view.injEq,aN,true_and,and_true]at hnorm
 obtain⟨⟨rfl,rfl,rfl⟩,rfl,rfl,rfl⟩:=hnorm
 obtain⟨-,q1,q2⟩:=G0 o2 o3 o4
 have lo: ∀cc,(aB f133)=cc→aL none Tryz.prog 0 [(0,⟨aE f133 0,vL m v 0 [] 0,.normal,KW m v m.length (bwL m)⟩),(2,⟨aE f133 2,vM m.length (0+v.length+m.length) (bwL m) (v++List.replicate m.length (0:Int)),.normal,w8 (byE m v).2.length (byE m v).2⟩)] cc:=fun cc h=>by
  subst h
  exact aL.cons (by kernel_rfl) (a8Z m v o1 o2) (aL.cons (by kernel_rfl) (a1H m v o1 o2 o3 o4) aL.nil)
 unfold byB byD
 cases hb:bet (bB (byE m v).2) 0 3 with
 |true=>
  exact mo (f:=204) (fn:=f133) a4V (XT m (bwL m) v (byE m v).2) (by
   simp only[hb,q1,o3,List.nil_append,bS,rpS];omega) (hlc:=(fun cc hcc=>lo cc (by cases hcc;rfl)))
 |false=>
  rw[cond_false,fQ]
  exact mo (f:=204) (fn:=f133) a4V (XU m (bwL m) v (byE m v).2) (by
   simp only[hb,q1,o3,AK q2,List.nil_append,List.length_drop,bS,rpS];omega) (hlc:=(fun cc hcc=>lo cc (by cases hcc;rfl)))
noncomputable def T53:List aZ:=[⟨204,[],nm SE⟩]++T52
theorem e53:aA Tryz.prog T53:=by
 refine aA.append ?_ e52
 intro e he
 simp only[List.mem_cons,List.not_mem_nil,or_false]at he
 subst he;exact aAF.ok
theorem t53:bL Tryz.prog (aH T53):=aQ e53
end
section
noncomputable abbrev f157:=Tryz.f242
theorem Y6 (i:Int):aJ tt (aH T53) ([]) 100 f157 [.c (.int .i64 i)] [] [(0,false)]=
  some ⟨.tup [.c (.sl 0 0 4 1 none),.c (.bool true)],[.live (.ints .i64 ([0,0,0,0].set i.toNat 1))],(!!bet i 0 3&&(decide (0≤i)&&(decide (i<4)&&((decide (i.toNat<4))&&true)))),[]⟩:=by kernel_rfl
def unL (i:Int):List Int:=[0,0,0,0].set i.toNat 1
def TA:aO:=fun args h=>
 match args,h with
 |[.c (.int .i64 i)],[]=>
  some (.tup [.c (.view none (.ints .i64 (unL i)) 4 1 none),.c (.bool true)],[],[bet i 0 3])
 |_,_=>none
theorem aAZ:aT Tryz.prog 242 TA:=by
 intro args h res h' o hnorm he ho
 unfold TA at he
 split at he
 case h_2=>cases he
 rename_i i
 simp only[Option.some.injEq,Prod.mk.injEq]at he
 obtain⟨rfl,rfl,rfl⟩:=he
 simp only[List.mem_cons,List.not_mem_nil,or_false,forall_eq_or_imp,forall_eq,decide_eq_true_eq]at ho
 have o1:=ho
 have h:=bQ.1 o1
 exact(mo (f:=242) (fn:=f157) t53 (Y6 i) (by simp only[o1,bS,rpS];omega)).views (o:=[decide (4=(unL i).length)]) rfl (by simp[unL])
noncomputable def T54:List aZ:=[⟨242,[],nm TA⟩]++T53
theorem e54:aA Tryz.prog T54:=by
 refine aA.append ?_ e53
 intro e he
 simp only[List.mem_cons,List.not_mem_nil,or_false]at he
 subst he;exact aAZ.ok
theorem t54:bL Tryz.prog (aH T54):=aQ e54
noncomputable abbrev f158:=Tryz.f243
noncomputable def A9 (m:List (List Int)) (n:Nat) (out:List Int) (i:Int):St:=
 aS f158.ntmps [(0,.c (.view none (.ivs .i64 m) m.length 1 none)),(3,.c (.sl 0 0 n 1 none)),(4,.c (.int .i64 i))] [.live (.ints .i64 out)]
noncomputable def O5 (n:Nat) (out:List Int):St:=aS f158.ntmps [(3,.c (.sl 0 0 n 1 none))] [.live (.ints .i64 out)]
def zB (m:List (List Int)) (n:Nat) (out:List Int) (i:Int):=bt6 (List.take i.toNat m) (aM tt (aH T54) ([]) 0 100 (aC 0 (aB f158)) (A9 m n out i)) (m.getD i.toNat []) (↑m.length:Int) (aK 0 (aE f158 0) (aG f158 0)) (IntKind.i64.wrap (i+1)) (P:=fun q0 q1 q2 q3 q4 q5=>q4 (q1 [(0,true),(0,true)])=
  some (.normal,(decide (i<q3)&&(decide (0≤i)&&(decide (i≤q3)&&(decide (0≤i)&&(decide (i<q3)&&(decide (i.toNat<m.length)&&(decide (q0.length≤274877906944)&&(eA q0&&(decide (q2.length≤274877906944)&&(decide ((cP q0).length≤1000)&&(iG q2.length (cP q0)&&(aD q2&&(!iC q0 q2&&(decide (n=out.length)&&((decide (n+1≤274877906944))&&true))))))))))))))),[],A9 m (n+1) (out++[i]) q5)∧q4 (q1 [(0,true),(0,false)])=
  some (.normal,(decide (i<q3)&&(decide (0≤i)&&(decide (i≤q3)&&(decide (0≤i)&&(decide (i<q3)&&(decide (i.toNat<m.length)&&(decide (q0.length≤274877906944)&&(eA q0&&(decide (q2.length≤274877906944)&&(decide ((cP q0).length≤1000)&&(iG q2.length (cP q0)&&(aD q2&&((!!iC q0 q2)&&true))))))))))))),[],A9 m (n) (out) q5)∧q4 (q1 [(0,false)])=
  some (.exit 0,((!decide (i<q3))&&true),[],O5 (n) (out))) ⟨by kernel_rfl,by kernel_rfl,by kernel_rfl⟩
def W1 (m:List (List Int)) (n:Nat) (out:List Int) (i:Int):=(zB m n out i).1
def W2 (m:List (List Int)) (n:Nat) (out:List Int) (i:Int):=(zB m n out i).2.1
def W4 (m:List (List Int)) (n:Nat) (out:List Int) (i:Int):=(zB m n out i).2.2
noncomputable abbrev f104:=Tryz.f158
noncomputable def jU (k:Int) (w:List Int) (c:List Bool) (n:Nat) (rows:List (List Int)) (g:Nat) (got:List Int) (i:Int):St:=
 aS f104.ntmps [(0,.c (.int .i64 k)),(1,.c (.view none (.ints .i64 w) w.length 1 none)),(2,.c (.view none (.bools c) c.length 1 none)),(7,.c (.sl 0 0 n 1 none)),(8,.c (.sl 1 0 g 1 none)),(9,.c (.int .i64 i))]
  [.live (.ivs .i64 rows),.live (.ints .i64 got)]
noncomputable def KT:St:=aS f104.ntmps [] []
noncomputable def OH:St:=aS f104.ntmps [(6,.c (.bool false))] []
noncomputable def sJ (k:Int) (w:List Int) (c:List Bool) (n:Nat) (rows:List (List Int)) (g:Nat) (got:List Int) (i:Int) (b:Nat) (by_:List Int) (x j:Int):St:=
 aS f104.ntmps [(0,.c (.int .i64 k)),(1,.c (.view none (.ints .i64 w) w.length 1 none)),(2,.c (.view none (.bools c) c.length 1 none)),(7,.c (.sl 0 0 n 1 none)),(8,.c (.sl 1 0 g 1 none)),(9,.c (.int .i64 i)),(11,.c (.sl 2 0 b 1 none)),(13,.c (.int .i64 x)),(14,.c (.int .i64 j))]
  [.live (.ivs .i64 rows),.live (.ints .i64 got),.live (.ints .i64 by_)]
noncomputable def AI (k:Int) (w:List Int) (c:List Bool) (n:Nat) (rows:List (List Int)) (g:Nat) (got:List Int) (i x:Int):St:=
 aS f104.ntmps [(0,.c (.int .i64 k)),(1,.c (.view none (.ints .i64 w) w.length 1 none)),(2,.c (.view none (.bools c) c.length 1 none)),(7,.c (.sl 0 0 n 1 none)),(8,.c (.sl 1 0 g 1 none)),(9,.c (.int .i64 i)),(13,.c (.int .i64 x))]
  [.live (.ivs .i64 rows),.live (.ints .i64 got)]
theorem UF (k:Int) (w:List Int) (c:List Bool) (n:Nat) (rows:List (List Int)) (g:Nat) (got:List Int) (i:Int) (b:Nat) (by_:List Int) (x j:Int):aK 0 (aE f104 2) (aG f104 2) (aM tt (aH T54) ([]) 0 100 (aC 2 (aB f104)) (sJ k w c n rows g got i b by_ x j) [(0,true)])=
  some (.normal,(decide (j<(↑b:Int))&&(decide (0≤j)&&(decide (j<(↑b:Int))&&(decide (j.toNat<by_.length)&&(decide (0≤j)&&(decide (j<(↑g:Int))&&((decide (j.toNat<got.length))&&true))))))),[],sJ k w c (n) (rows) (g) (got) (i) (b) (by_) ((IntKind.i64.wrap (x+IntKind.i64.wrap (by_.getD j.toNat 0*got.getD j.toNat 0))).tmod 31) (IntKind.i64.wrap (j+1))):=by kernel_rfl
theorem UG (k:Int) (w:List Int) (c:List Bool) (n:Nat) (rows:List (List Int)) (g:Nat) (got:List Int) (i:Int) (b:Nat) (by_:List Int) (x j:Int):aK 0 (aE f104 2) (aG f104 2) (aM tt (aH T54) ([]) 0 100 (aC 2 (aB f104)) (sJ k w c n rows g got i b by_ x j) [(0,false)])=
  some (.exit 2,((!decide (j<(↑b:Int)))&&true),[],AI k w c (n) (rows) (g) (got) (i) (x)):=by kernel_rfl
def GI (k:Int) (w:List Int) (c:List Bool) (n:Nat) (rows:List (List Int)) (g:Nat) (got:List Int) (i x:Int):=bt8 (aM tt (aH T54) ([(2,⟨aE f104 2,sJ k w c n rows g got i (byD rows (bH k i)).length (byD rows (bH k i)) 0 0,.normal,AI k w c n rows g got i x⟩)]) 0 100 (aC 0 (aB f104)) (jU k w c n rows g got i)) (bH k i) (aK 0 (aE f104 0) (aG f104 0)) (↑c.length:Int) (IntKind.i64.wrap (i+1)) (cP rows) (!!c.getD i.toNat false) (↑w.length:Int) (P:=fun q0 q1 q2 q3 q4 q5 q6 q7=>q2 (q0 [(0,true),(0,true)])=
  some (.normal,(decide (i<8)&&(decide (0≤i)&&(decide (i<q3)&&(decide (i.toNat<c.length)&&((!c.getD i.toNat false)&&true))))),[],jU k w c (n) (rows) (g) (got) q4)∧q2 (q0 [(0,true),(0,false),(0,true),(0,true)])=
  some (.ret,(decide (i<8)&&(decide (0≤i)&&(decide (i<q3)&&(decide (i.toNat<c.length)&&(q6&&(bet k 1 2&&(bet i 0 7&&(decide (n=rows.length)&&(decide (rows.length≤274877906944)&&(eA rows&&(decide (q1.length≤274877906944)&&(decide (q5.length≤1000)&&(iG q1.length q5&&(aD q1&&(iC rows q1&&(decide (n=rows.length)&&(decide (rows.length≤1000)&&(bX 4 rows&&(decide (q1.length=4)&&(aD q1&&(decide (0≤i)&&(decide (i<q7)&&(decide (i.toNat<w.length)&&((x !=w.getD i.toNat 0)&&true)))))))))))))))))))))))),[sJ k w c n rows g got i (byD rows q1).length (byD rows q1) 0 0=sJ k w c n rows g got i (byD rows q1).length (byD rows q1) 0 0],OH)∧q2 (q0 [(0,true),(0,false),(0,true),(0,false)])=
  some (.normal,(decide (i<8)&&(decide (0≤i)&&(decide (i<q3)&&(decide (i.toNat<c.length)&&(q6&&(bet k 1 2&&(bet i 0 7&&(decide (n=rows.length)&&(decide (rows.length≤274877906944)&&(eA rows&&(decide (q1.length≤274877906944)&&(decide (q5.length≤1000)&&(iG q1.length q5&&(aD q1&&(iC rows q1&&(decide (n=rows.length)&&(decide (rows.length≤1000)&&(bX 4 rows&&(decide (q1.length=4)&&(aD q1&&(decide (0≤i)&&(decide (i<q7)&&(decide (i.toNat<w.length)&&((!x !=w.getD i.toNat 0)&&true)))))))))))))))))))))))),[sJ k w c n rows g got i (byD rows q1).length (byD rows q1) 0 0=sJ k w c n rows g got i (byD rows q1).length (byD rows q1) 0 0],jU k w c (n) (rows) (g) (got) q4)∧q2 (q0 [(0,true),(0,false),(0,false)])=
  some (.normal,(decide (i<8)&&(decide (0≤i)&&(decide (i<q3)&&(decide (i.toNat<c.length)&&(q6&&(bet k 1 2&&(bet i 0 7&&(decide (n=rows.length)&&(decide (rows.length≤274877906944)&&(eA rows&&(decide (q1.length≤274877906944)&&(decide (q5.length≤1000)&&(iG q1.length q5&&(aD q1&&(!iC rows q1&&(decide (n=rows.length)&&(decide (n+1≤274877906944)&&(decide (0≤i)&&(decide (i<q7)&&(decide (i.toNat<w.length)&&(decide (g=got.length)&&((decide (g+1≤274877906944))&&true)))))))))))))))))))))),[],jU k w c (n+1) (rows++[bH k i]) (g+1) (got++[w.getD i.toNat 0]) q4)∧q2 (q0 [(0,false)])=
  some (.exit 0,((!decide (i<8))&&true),[],KT)) ⟨by kernel_rfl,by kernel_rfl,by kernel_rfl,by kernel_rfl,by kernel_rfl⟩
def UU (k:Int) (w:List Int) (c:List Bool) (n:Nat) (rows:List (List Int)) (g:Nat) (got:List Int) (i x:Int):=(GI k w c n rows g got i x).2.1
def UV (k:Int) (w:List Int) (c:List Bool) (n:Nat) (rows:List (List Int)) (g:Nat) (got:List Int) (i x:Int):=(GI k w c n rows g got i x).2.2.1
theorem PN (k:Int) (w:List Int) (c:List Bool) (n:Nat) (rows:List (List Int)) (g:Nat) (got:List Int) (i:Int):aK 0 (aE f104 0) (aG f104 0) (aM tt (aH T54) ([]) 0 100 (aC 0 (aB f104)) (jU k w c n rows g got i) [(0,true),(0,true)])=
  some (.normal,(decide (i<8)&&(decide (0≤i)&&(decide (i<(↑c.length:Int))&&(decide (i.toNat<c.length)&&((!c.getD i.toNat false)&&true))))),[],jU k w c (n) (rows) (g) (got) (IntKind.i64.wrap (i+1))):=by kernel_rfl
theorem PO (k:Int) (w:List Int) (c:List Bool) (n:Nat) (rows:List (List Int)) (g:Nat) (got:List Int) (i:Int):aK 0 (aE f104 0) (aG f104 0) (aM tt (aH T54) ([]) 0 100 (aC 0 (aB f104)) (jU k w c n rows g got i) [(0,true),(0,false),(0,false)])=
  some (.normal,(decide (i<8)&&(decide (0≤i)&&(decide (i<(↑c.length:Int))&&(decide (i.toNat<c.length)&&((!!c.getD i.toNat false)&&(bet k 1 2&&(bet i 0 7&&(decide (n=rows.length)&&(decide (rows.length≤274877906944)&&(eA rows&&(decide ((bH k i).length≤274877906944)&&(decide ((cP rows).length≤1000)&&(iG (bH k i).length (cP rows)&&(aD (bH k i)&&(!iC rows (bH k i)&&(decide (n=rows.length)&&(decide (n+1≤274877906944)&&(decide (0≤i)&&(decide (i<(↑w.length:Int))&&(decide (i.toNat<w.length)&&(decide (g=got.length)&&((decide (g+1≤274877906944))&&true)))))))))))))))))))))),[],jU k w c (n+1) (rows++[bH k i]) (g+1) (got++[w.getD i.toNat 0]) (IntKind.i64.wrap (i+1))):=by kernel_rfl
theorem PP (k:Int) (w:List Int) (c:List Bool) (n:Nat) (rows:List (List Int)) (g:Nat) (got:List Int) (i:Int):aK 0 (aE f104 0) (aG f104 0) (aM tt (aH T54) ([]) 0 100 (aC 0 (aB f104)) (jU k w c n rows g got i) [(0,false)])=
  some (.exit 0,((!decide (i<8))&&true),[],KT):=by kernel_rfl
theorem X9 (k:Int) (w:List Int) (c:List Bool):aJ tt (aH T54) ([(0,⟨aE f104 0,jU k w c 0 [] 0 [] 0,.normal,KT⟩)]) 100 f104 [.c (.int .i64 k),.c (.view none (.ints .i64 w) w.length 1 none),.c (.view none (.bools c) c.length 1 none)] [] []=
  some ⟨.c (.bool true),[],true,[jU k w c 0 [] 0 [] 0=jU k w c 0 [] 0 [] 0]⟩:=by kernel_rfl
theorem RC (k:Int) (w:List Int) (c:List Bool):aJ tt (aH T54) ([(0,⟨aE f104 0,jU k w c 0 [] 0 [] 0,.ret,OH⟩)]) 100 f104 [.c (.int .i64 k),.c (.view none (.ints .i64 w) w.length 1 none),.c (.view none (.bools c) c.length 1 none)] [] []=
  some ⟨.c (.bool false),[],true,[jU k w c 0 [] 0 [] 0=jU k w c 0 [] 0 [] 0]⟩:=by kernel_rfl
noncomputable abbrev f137:=Tryz.f208
noncomputable def A6 (k:Int) (c:List Bool) (n:Nat) (out:List Int) (i:Int):St:=
 aS f137.ntmps [(0,.c (.int .i64 k)),(1,.c (.view none (.bools c) c.length 1 none)),(5,.c (.sl 0 0 n 1 none)),(6,.c (.int .i64 i))] [.live (.ints .i64 out)]
noncomputable def O2 (k:Int) (c:List Bool) (n:Nat) (out:List Int):St:=
 aS f137.ntmps [(0,.c (.int .i64 k)),(1,.c (.view none (.bools c) c.length 1 none)),(5,.c (.sl 0 0 n 1 none))] [.live (.ints .i64 out)]
def z9 (k:Int) (c:List Bool) (n:Nat) (out:List Int) (i:Int):=bt4 (aM tt (aH T54) ([]) 0 100 (aC 0 (aB f137)) (A6 k c n out i)) (aK 0 (aE f137 0) (aG f137 0)) (IntKind.i64.wrap (i+1)) (↑c.length:Int) (P:=fun q0 q1 q2 q3=>q1 (q0 [(0,true),(0,true)])=
  some (.normal,(decide (i<8)&&(decide (0≤i)&&(decide (i<q3)&&(decide (i.toNat<c.length)&&((c.getD i.toNat false)&&(decide (n=out.length)&&((decide (n+1≤274877906944))&&true))))))),[],A6 k c (n+1) (out++[i]) q2)∧q1 (q0 [(0,true),(0,false)])=
  some (.normal,(decide (i<8)&&(decide (0≤i)&&(decide (i<q3)&&(decide (i.toNat<c.length)&&((!c.getD i.toNat false)&&true))))),[],A6 k c (n) (out) q2)∧q1 (q0 [(0,false)])=
  some (.exit 0,((!decide (i<8))&&true),[],O2 k c (n) (out))) ⟨by kernel_rfl,by kernel_rfl,by kernel_rfl⟩
def VK (k:Int) (c:List Bool) (n:Nat) (out:List Int) (i:Int):=(z9 k c n out i).1
def VL (k:Int) (c:List Bool) (n:Nat) (out:List Int) (i:Int):=(z9 k c n out i).2.1
def VM (k:Int) (c:List Bool) (n:Nat) (out:List Int) (i:Int):=(z9 k c n out i).2.2
noncomputable abbrev f136:=Tryz.f207
noncomputable def A5 (k:Int) (w fr:List Int) (n:Nat) (rows:List (List Int)) (i:Int):St:=
 aS f136.ntmps [(0,.c (.int .i64 k)),(1,.c (.view none (.ints .i64 w) w.length 1 none)),(2,.c (.view none (.ints .i64 fr) fr.length 1 none)),(7,.c (.sl 0 0 n 1 none)),(8,.c (.int .i64 i))] [.live (.ivs .i64 rows)]
noncomputable def O1 (w fr:List Int) (n:Nat) (rows:List (List Int)):St:=
 aS f136.ntmps [(1,.c (.view none (.ints .i64 w) w.length 1 none)),(2,.c (.view none (.ints .i64 fr) fr.length 1 none)),(7,.c (.sl 0 0 n 1 none))] [.live (.ivs .i64 rows)]
theorem VI (k:Int) (w fr:List Int) (n:Nat) (rows:List (List Int)) (i:Int):aK 0 (aE f136 0) (aG f136 0) (aM tt (aH T54) ([]) 0 100 (aC 0 (aB f136)) (A5 k w fr n rows i) [(0,true)])=
  some (.normal,(decide (i<(↑fr.length:Int))&&(decide (0≤i)&&(decide (i<(↑fr.length:Int))&&(decide (i.toNat<fr.length)&&(bet k 1 2&&(bet (fr.getD i.toNat 0) 0 7&&(decide (n=rows.length)&&((decide (n+1≤274877906944))&&true)))))))),[],A5 k w fr (n+1) (rows++[bH k (fr.getD i.toNat 0)]) (IntKind.i64.wrap (i+1))):=by kernel_rfl
theorem VJ (k:Int) (w fr:List Int) (n:Nat) (rows:List (List Int)) (i:Int):aK 0 (aE f136 0) (aG f136 0) (aM tt (aH T54) ([]) 0 100 (aC 0 (aB f136)) (A5 k w fr n rows i) [(0,false)])=
  some (.exit 0,((!decide (i<(↑fr.length:Int)))&&true),[],O1 w fr (n) (rows)):=by kernel_rfl
end
section
def lO (m:List (List Int)) (v:List Int):Bool:=decide (m.length≤1000)&&(eA m&&(decide (v.length≤1000)&&(decide ((cP m).length≤1000)&&(iG v.length (cP m)&&aD v))))
theorem wQ {m:List (List Int)} {v:List Int} (h:lO m v=true):m.length≤1000∧eA m=true∧v.length≤1000∧(cP m).length≤1000∧iG v.length (cP m)=true∧aD v=true:=by
 simpa only[lO,Bool.and_eq_true,decide_eq_true_eq]using h
def fsS (m:List (List Int)) (i:Nat) (o:List Int):List Int:=bif !iC (m.take i) (m.getD i [])then o++[(i:Int)]else o
def cD (m:List (List Int)):List Int:=bI (fsS m) m.length 0 []
def HL (m:List (List Int)):Bool:=cN (fun i=>lO (m.take i) (m.getD i [])) m.length
theorem a99 (m:List (List Int)) (hm:m.length≤1000) (hf:HL m=true):
  aP none Tryz.prog 0 (.block 0 (.loop (aC 0 (aB f158)))) (A9 m 0 [] 0) fun e t=>e=.normal∧t=O5 (cD m).length (cD m):=by
 refine(aP.count (ro:=none) hT t54 bE (m:=0) (id:=0) (body:=aC 0 (aB f158)) m.length (fun i o=>o.length≤i) (fun i o=>A9 m o.length o i) (fun o=>O5 o.length o) (fsS m) (aE f158 0) (aG f158 0)
  (fun _ _=>[]) (fun _ _ _ _=>aL.nil) (fun i o hi h=> ?_) (fun o h=>⟨_,_,⟨_,_,W4 m o.length o m.length,by simp,by simp⟩⟩)) [] (by simp)
 obtain⟨h1,h2,h3,h4,h5,h6⟩:=wQ (aX hf i hi)
 unfold fsS
 cases hq:iC (m.take i) (m.getD i [])with
 |false=>
  refine⟨by simp;omega, ?_⟩
  have e:=W1 m o.length o i
  rw[aF (by omega) (by omega),Int.toNat_natCast]at e
  rw[Bool.not_false,cond_true,List.length_append]
  refine⟨_,_,⟨_,_,e, ?_,by simp⟩⟩
  simp only[hq,h2,h5,h6,bS,rpS]
  omega
 |true=>
  refine⟨by rw[Bool.not_true,cond_false];omega, ?_⟩
  have e:=W2 m o.length o i
  rw[aF (by omega) (by omega),Int.toNat_natCast]at e
  rw[Bool.not_true,cond_false]
  refine⟨_,_,⟨_,_,e, ?_,by simp⟩⟩
  simp only[hq,h2,h5,h6,bS,rpS]
  omega
theorem Y7 (m:List (List Int)):aJ tt (aH T54) ([(0,⟨aE f158 0,A9 m 0 [] 0,.normal,O5 (cD m).length (cD m)⟩)]) 100 f158 [.c (.view none (.ivs .i64 m) m.length 1 none)] [] []=
  some ⟨.c (.sl 0 0 (cD m).length 1 none),[.live (.ints .i64 (cD m))],true,[A9 m 0 [] 0=A9 m 0 [] 0]⟩:=by kernel_rfl
def xM:aO:=fun args h=>
 match args,h with
 |[.c (.view _ (.ivs .i64 m) n 1 _)],[]=>
  some (.c (.sl 0 0 (cD m).length 1 none),[.live (.ints .i64 (cD m))],[decide (m.length≤1000),HL m])
 |_,_=>none
theorem aB0:aT Tryz.prog 243 xM:=by
 intro args h res h' o hnorm he ho
 unfold xM at he
 split at he
 case h_2=>cases he
 rename_i nl m n cap
 simp only[Option.some.injEq,Prod.mk.injEq]at he
 obtain⟨rfl,rfl,rfl⟩:=he
 simp only[List.mem_cons,List.not_mem_nil,or_false,forall_eq_or_imp,forall_eq,decide_eq_true_eq]at ho
 obtain⟨o1,o2⟩:=ho
 simp only[b8,AV.norm,bA,aI.norm,Con.size,List.cons.injEq,AV.c.injEq,AV.agg.injEq,aI.view.injEq,aN,true_and,and_true]at hnorm
 obtain⟨rfl,rfl,rfl⟩:=hnorm
 exact mo (fn:=f158) t54 (Y7 m) (by simp) (hlc:=(fun cc hcc=>aL.cons (c:=cc) (by cases hcc;kernel_rfl) (by cases hcc;exact a99 m o1 o2) aL.nil))
theorem sX (v w:List Int): ∀(f i:Nat) (n:Int),qE v w f i n=bI (fun i n=>(n+v.getD i 0*w.getD i 0)%31) f i n
 |0,_,_=>rfl
 |f+1,i,n=>sX v w f (i+1) _
theorem a1G (k:Int) (w:List Int) (c:List Bool) (n:Nat) (rows:List (List Int)) (g:Nat) (got:List Int) (i:Int) (b:List Int) (hb:b.length≤1000) (hg:g=got.length) (hl:b.length≤got.length) (h1:aD b=true) (h2:aD got=true):
  aP none Tryz.prog 0 (.block 2 (.loop (aC 2 (aB f104)))) (sJ k w c n rows g got i b.length b 0 0) fun e t=>e=.normal∧t=AI k w c n rows g got i (dL b got):=by
 have key:=aP.count (ro:=none) hT t54 bE (m:=0) (id:=2) (body:=aC 2 (aB f104)) b.length (fun _ x=>fok x=true) (fun j x=>sJ k w c n rows g got i b.length b x j) (fun x=>AI k w c n rows g got i x) (fun i n=>(n+b.getD i 0*got.getD i 0)%31) (aE f104 2) (aG f104 2)
  (fun _ _=>[]) (fun _ _ _ _=>aL.nil) (fun j x hj h=>⟨cB _, ?_⟩) (fun x h=>⟨_,_,⟨_,_,UG k w c n rows g got i b.length b x b.length,by simp,by simp⟩⟩) 0 rfl
 ·unfold dL;rw[sX];exact key
 ·have e:=UF k w c n rows g got i b.length b x j
  rw[Int.toNat_natCast,sY h (aU h1 j) (aU h2 j),aF (by omega) (by omega)]at e
  refine⟨_,_,⟨_,_,e, ?_,by simp⟩⟩
  simp only[bS,rpS]
  omega
def sfS (k:Int) (w:List Int) (c:List Bool) (i:Nat) (s:List (List Int)×List Int):(List (List Int)×List Int)⊕Unit:=
 bif c.getD i false then(bif iC s.1 (bH k i)then(bif dL (byD s.1 (bH k i)) s.2 !=w.getD i 0 then .inr ()else .inl s)else .inl (s.1++[bH k i],s.2++[w.getD i 0]))else .inl s
def sfL (k:Int) (w:List Int) (c:List Bool):Bool:=match cG (sfS k w c) 8 0 ([],[])with
 |.inl _=>true
 |.inr _=>false
def rwT (k:Int) (c:List Bool) (i:Nat) (rows:List (List Int)):List (List Int):=bif c.getD i false&& !iC rows (bH k i)then rows++[bH k i]else rows
def BJ (k:Int) (c:List Bool):Nat→Nat→List (List Int)→Bool
 |0,_,_=>true
 |f+1,i,rows=>(bif c.getD i false then lO rows (bH k i)else true)&&BJ k c f (i+1) (rwT k c i rows)
theorem FZ {m:List (List Int)} {v:List Int} (hm:bX 4 m=true) (h1:v.length=4) (h2:aD v=true):(byD m v).length≤m.length∧aD (byD m v)=true:=by
 obtain⟨-,q1,q2⟩:=G0 hm h1 h2
 unfold byD
 cases bet (bB (byE m v).2) 0 3
 ·rw[cond_false];exact⟨by rw[fQ,List.length_drop];omega,mQ _ _⟩
 ·exact⟨by simp,rfl⟩
theorem TR:aC 2 (aC 0 (aB f104))=aC 2 (aB f104):=by kernel_rfl
theorem a8S (k:Int) (w:List Int) (c:List Bool) (hk:bet k 1 2=true) (hw:w.length=8) (hf:aD w=true) (hc:c.length=8) (ho:BJ k c 8 0 []=true):
  aP none Tryz.prog 0 (.block 0 (.loop (aC 0 (aB f104)))) (jU k w c 0 [] 0 [] 0) fun e t=>e=(bif sfL k w c then .normal else .ret)∧t=bif sfL k w c then KT else OH:=by
 have key:=aP.countE (ro:=none) hT t54 bE (m:=0) (id:=0) (body:=aC 0 (aB f104)) (β:=List (List Int)×List Int) (γ:=Unit) 8
  (fun i s=>s.1.length≤i∧s.2.length=s.1.length∧bX 4 s.1=true∧aD s.2=true∧BJ k c (8-i) i s.1=true) (fun i s=>jU k w c s.1.length s.1 s.2.length s.2 i) (fun _=>KT) (fun _=>OH) .ret (.inr rfl) (sfS k w c) (aE f104 0) (aG f104 0)
  (fun i s=>bif c.getD i false&&iC s.1 (bH k i)then [(2,⟨aE f104 2,sJ k w c s.1.length s.1 s.2.length s.2 i (byD s.1 (bH k i)).length (byD s.1 (bH k i)) 0 0,.normal,AI k w c s.1.length s.1 s.2.length s.2 i (dL (byD s.1 (bH k i)) s.2)⟩)]else [])
  (fun i s hi h=> ?_) (fun i s hi h=> ?_) (fun s h=>⟨_,_,⟨_,_,PP k w c s.1.length s.1 s.2.length s.2 (8:Nat),by simp,by simp⟩⟩) ([],[]) ⟨by simp,rfl,rfl,rfl,ho⟩
 ·refine aP.mono key fun e t h=> ?_
  unfold sfL
  revert h
  cases cG (sfS k w c) 8 0 ([],[])<;>exact fun h=>h
 ·obtain⟨h1,h2,h3,h4,h5⟩:=h
  have hb:bet (i:Int) 0 7=true:=bQ.2 ⟨by omega,by omega⟩
  cases hx:c.getD i false&&iC s.1 (bH k i)with
  |false=>exact aL.nil
  |true=>
   obtain⟨q1,q2⟩:=FZ h3 (kH hk hb) (kG hk hb)
   exact aL.cons (by kernel_rfl) (by rw[TR];exact a1G k w c s.1.length s.1 s.2.length s.2 i (byD s.1 (bH k i)) (by omega) rfl (by omega) q2 h4) aL.nil
 ·obtain⟨h1,h2,h3,h4,h5⟩:=h
  have hb:bet (i:Int) 0 7=true:=bQ.2 ⟨by omega,by omega⟩
  have hb':=bQ.1 hb
  rw[show 8-i=(8-(i+1))+1 from by omega]at h5
  simp only[BJ,Bool.and_eq_true,rpS]at h5
  obtain⟨h5,h6⟩:=h5
  have g1:=kH hk hb
  have g2:=kG hk hb
  cases hq:c.getD i false with
  |false=>
   refine .inl ⟨s,by simp only[sfS,hq,cond_false],⟨by omega,h2,h3,h4, ?_⟩, ?_⟩
   ·unfold rwT at h6;rw[hq,Bool.false_and,cond_false]at h6;exact h6
   ·have e:=PN k w c s.1.length s.1 s.2.length s.2 i
    rw[aF (by omega) (by omega),Int.toNat_natCast]at e
    rw[Bool.false_and,cond_false]
    refine⟨_,_,⟨_,_,e, ?_,by simp⟩⟩
    simp only[hq,bS,rpS]
    omega
  |true=>
   rw[hq,cond_true]at h5
   obtain⟨z1,z2,z3,z4,z5,z6⟩:=wQ h5
   cases hh:iC s.1 (bH k i)with
   |false=>
    refine .inl ⟨(s.1++[bH k i],s.2++[w.getD i 0]),by simp only[sfS,hq,hh,cond_true,cond_false],⟨by simp;omega,by simp;omega,mP h3 g1 g2,eC h4 (by simp[aD,aU hf,-List.getD_eq_getElem?_getD]), ?_⟩, ?_⟩
    ·unfold rwT at h6;rw[hq,hh,Bool.true_and,Bool.not_false,cond_true]at h6;exact h6
    ·have e:=PO k w c s.1.length s.1 s.2.length s.2 i
     rw[aF (by omega) (by omega),Int.toNat_natCast]at e
     rw[Bool.true_and,cond_false]
     simp only[List.length_append,List.length_cons,List.length_nil]
     refine⟨_,_,⟨_,_,e, ?_,by simp⟩⟩
     simp only[hq,hh,hk,hb,g1,g2,z2,z4,z6,bS,rpS]
     rw[g1]at z5
     simp only[z5,bS,rpS]
     omega
   |true=>
    have z5':=z5
    rw[g1]at z5'
    cases hd:(dL (byD s.1 (bH k i)) s.2 !=w.getD i 0)with
    |true=>
     refine .inr ⟨(),by simp only[sfS,hq,hh,hd,cond_true], ?_⟩
     have e:=UU k w c s.1.length s.1 s.2.length s.2 i (dL (byD s.1 (bH k i)) s.2)
     rw[Int.toNat_natCast]at e
     rw[Bool.true_and,cond_true,if_neg (by intro h;cases h)]
     refine⟨_,_,⟨_,_,e, ?_,by simp⟩⟩
     simp only[hq,hh,hk,hb,hd,g1,g2,h3,z2,z4,z5',z6,bS,rpS]
     omega
    |false=>
     refine .inl ⟨s,by simp only[sfS,hq,hh,hd,cond_true,cond_false],⟨by omega,h2,h3,h4, ?_⟩, ?_⟩
     ·unfold rwT at h6;rw[hq,hh,Bool.true_and,Bool.not_true,cond_false]at h6;exact h6
     ·have e:=UV k w c s.1.length s.1 s.2.length s.2 i (dL (byD s.1 (bH k i)) s.2)
      rw[aF (by omega) (by omega),Int.toNat_natCast]at e
      rw[Bool.true_and,cond_true]
      refine⟨_,_,⟨_,_,e, ?_,by simp⟩⟩
      simp only[hq,hh,hk,hb,hd,g1,g2,h3,z2,z4,z5',z6,bS,rpS]
      omega
def SS:aO:=fun args h=>
 match args,h with
 |[.c (.int .i64 k),.c (.view _ (.ints .i64 w) n1 1 _),.c (.view _ (.bools c) n2 1 _)],[]=>
  some (.c (.bool (sfL k w c)),[],[bet k 1 2,decide (w.length=8),aD w,decide (c.length=8),BJ k c 8 0 []])
 |_,_=>none
theorem a1M:aT Tryz.prog 158 SS:=by
 intro args h res h' o hnorm he ho
 unfold SS at he
 split at he
 case h_2=>cases he
 rename_i k nl w n cap nl2 c n2 cap2
 simp only[Option.some.injEq,Prod.mk.injEq]at he
 obtain⟨rfl,rfl,rfl⟩:=he
 simp only[List.mem_cons,List.not_mem_nil,or_false,forall_eq_or_imp,forall_eq,decide_eq_true_eq]at ho
 obtain⟨o1,o2,o3,o4,o5⟩:=ho
 simp only[b8,AV.norm,bA,aI.norm,Con.size,List.cons.injEq,AV.c.injEq,AV.agg.injEq,aI.view.injEq,aN,true_and,and_true]at hnorm
 obtain⟨⟨rfl,rfl,rfl⟩,rfl,rfl,rfl⟩:=hnorm
 have g:=a8S k w c o1 o2 o3 o4 o5
 cases hx:sfL k w c with
 |true=>
  rw[hx]at g
  exact mo (fn:=f104) t54 (X9 k w c) (by simp) (hlc:=(fun cc hcc=>aL.cons (c:=cc) (by cases hcc;kernel_rfl) (by cases hcc;exact g) aL.nil))
 |false=>
  rw[hx]at g
  exact mo (fn:=f104) t54 (RC k w c) (by simp) (hlc:=(fun cc hcc=>aL.cons (c:=cc) (by cases hcc;kernel_rfl) (by cases hcc;exact g) aL.nil))
noncomputable def T55:List aZ:=[⟨243,[],nm xM⟩,⟨158,[],nm SS⟩]++T54
theorem e55:aA Tryz.prog T55:=by
 refine aA.append ?_ e54
 intro e he
 simp only[List.mem_cons,List.not_mem_nil,or_false]at he
 rcases he with rfl|rfl
 ·exact aB0.ok
 ·exact a1M.ok
theorem t55:bL Tryz.prog (aH T55):=aQ e55
end
section
noncomputable def yB (n:Nat) (ats:List Int) (m:Nat) (fst:List Int) (g:Nat) (out:List Int) (i:Int):St:=
 aS f137.ntmps [(5,.c (.sl 0 0 n 1 none)),(7,.c (.sl 1 0 m 1 none)),(8,.c (.sl 2 0 g 1 none)),(9,.c (.int .i64 i))] [.live (.ints .i64 ats),.live (.ints .i64 fst),.live (.ints .i64 out)]
noncomputable def L4 (g:Nat) (out:List Int):St:=aS f137.ntmps [(8,.c (.sl 0 0 g 1 none))] [.live (.ints .i64 out)]
theorem UI (n:Nat) (ats:List Int) (m:Nat) (fst:List Int) (g:Nat) (out:List Int) (i:Int):aK 0 (aE f137 2) (aG f137 2) (aM tt (aH T55) ([]) 0 100 (aC 2 (aB f137)) (yB n ats m fst g out i) [(0,true)])=
  some (.normal,(decide (i<(↑m:Int))&&(decide (0≤i)&&(decide (i<(↑m:Int))&&(decide (i.toNat<fst.length)&&(decide (0≤fst.getD i.toNat 0)&&(decide (fst.getD i.toNat 0<(↑n:Int))&&(decide ((fst.getD i.toNat 0).toNat<ats.length)&&(decide (g=out.length)&&((decide (g+1≤274877906944))&&true))))))))),[],yB n ats m fst (g+1) (out++[ats.getD (fst.getD i.toNat 0).toNat 0]) (IntKind.i64.wrap (i+1))):=by kernel_rfl
theorem UJ (n:Nat) (ats:List Int) (m:Nat) (fst:List Int) (g:Nat) (out:List Int) (i:Int):aK 0 (aE f137 2) (aG f137 2) (aM tt (aH T55) ([]) 0 100 (aC 2 (aB f137)) (yB n ats m fst g out i) [(0,false)])=
  some (.exit 2,((!decide (i<(↑m:Int)))&&true),[],L4 (g) (out)):=by kernel_rfl
noncomputable def AC (w fr:List Int) (n:Nat) (rows:List (List Int)) (g:Nat) (out:List Int) (i:Int):St:=
 aS f136.ntmps [(1,.c (.view none (.ints .i64 w) w.length 1 none)),(2,.c (.view none (.ints .i64 fr) fr.length 1 none)),(7,.c (.sl 0 0 n 1 none)),(9,.c (.sl 1 0 g 1 none)),(10,.c (.int .i64 i))] [.live (.ivs .i64 rows),.live (.ints .i64 out)]
noncomputable def DX (g:Nat) (out:List Int):St:=aS f136.ntmps [(9,.c (.sl 0 0 g 1 none))] [.live (.ints .i64 out)]
noncomputable def yC (w fr:List Int) (n:Nat) (rows:List (List Int)) (g:Nat) (out:List Int) (i:Int) (b:Nat) (by_:List Int) (x j:Int):St:=
 aS f136.ntmps [(1,.c (.view none (.ints .i64 w) w.length 1 none)),(2,.c (.view none (.ints .i64 fr) fr.length 1 none)),(7,.c (.sl 0 0 n 1 none)),(9,.c (.sl 1 0 g 1 none)),(10,.c (.int .i64 i)),(13,.c (.sl 2 0 b 1 none)),(15,.c (.int .i64 x)),(16,.c (.int .i64 j))]
  [.live (.ivs .i64 rows),.live (.ints .i64 out),.live (.ints .i64 by_)]
noncomputable def L7 (w fr:List Int) (n:Nat) (rows:List (List Int)) (g:Nat) (out:List Int) (i x:Int):St:=
 aS f136.ntmps [(1,.c (.view none (.ints .i64 w) w.length 1 none)),(2,.c (.view none (.ints .i64 fr) fr.length 1 none)),(7,.c (.sl 0 0 n 1 none)),(9,.c (.sl 1 0 g 1 none)),(10,.c (.int .i64 i)),(15,.c (.int .i64 x))]
  [.live (.ivs .i64 rows),.live (.ints .i64 out)]
theorem UO (w fr:List Int) (n:Nat) (rows:List (List Int)) (g:Nat) (out:List Int) (i:Int) (b:Nat) (by_:List Int) (x j:Int):aK 0 (aE f136 4) (aG f136 4) (aM tt (aH T55) ([]) 0 100 (aC 4 (aB f136)) (yC w fr n rows g out i b by_ x j) [(0,true)])=
  some (.normal,(decide (j<(↑fr.length:Int))&&(decide (0≤j)&&(decide (j<(↑b:Int))&&(decide (j.toNat<by_.length)&&(decide (0≤j)&&(decide (j<(↑fr.length:Int))&&(decide (j.toNat<fr.length)&&(decide (0≤fr.getD j.toNat 0)&&(decide (fr.getD j.toNat 0<(↑w.length:Int))&&((decide ((fr.getD j.toNat 0).toNat<w.length))&&true)))))))))),[],yC w fr (n) (rows) (g) (out) (i) (b) (by_) ((IntKind.i64.wrap (x+IntKind.i64.wrap (by_.getD j.toNat 0*w.getD (fr.getD j.toNat 0).toNat 0))).tmod 31) (IntKind.i64.wrap (j+1))):=by kernel_rfl
theorem UP (w fr:List Int) (n:Nat) (rows:List (List Int)) (g:Nat) (out:List Int) (i:Int) (b:Nat) (by_:List Int) (x j:Int):aK 0 (aE f136 4) (aG f136 4) (aM tt (aH T55) ([]) 0 100 (aC 4 (aB f136)) (yC w fr n rows g out i b by_ x j) [(0,false)])=
  some (.exit 4,((!decide (j<(↑fr.length:Int)))&&true),[],L7 w fr (n) (rows) (g) (out) (i) (x)):=by kernel_rfl
def PA (w fr:List Int) (n:Nat) (rows:List (List Int)) (g:Nat) (out:List Int) (i x:Int):=bt3 (aM tt (aH T55) ([(4,⟨aE f136 4,yC w fr n rows g out i (byD rows (unL i)).length (byD rows (unL i)) 0 0,.normal,L7 w fr n rows g out i x⟩)]) 0 100 (aC 2 (aB f136)) (AC w fr n rows g out i)) (byD rows (unL i)) (aK 0 (aE f136 2) (aG f136 2)) (P:=fun q0 q1 q2=>q2 (q0 [(0,true)])=
  some (.normal,(decide (i<4)&&(bet i 0 3&&(decide (n=rows.length)&&(decide (rows.length≤1000)&&(bX 4 rows&&(decide ((unL i).length=4)&&(aD (unL i)&&(decide (g=out.length)&&((decide (g+1≤274877906944))&&true))))))))),[yC w fr n rows g out i q1.length q1 0 0=yC w fr n rows g out i q1.length q1 0 0],AC w fr (n) (rows) (g+1) (out++[x]) (IntKind.i64.wrap (i+1)))∧q2 (q0 [(0,false)])=
  some (.exit 2,((!decide (i<4))&&true),[],DX (g) (out))) ⟨by kernel_rfl,by kernel_rfl⟩
def UH (w fr:List Int) (n:Nat) (rows:List (List Int)) (g:Nat) (out:List Int) (i x:Int):=(PA w fr n rows g out i x).1
theorem PB (w fr:List Int) (n:Nat) (rows:List (List Int)) (g:Nat) (out:List Int) (i:Int):aK 0 (aE f136 2) (aG f136 2) (aM tt (aH T55) ([]) 0 100 (aC 2 (aB f136)) (AC w fr n rows g out i) [(0,false)])=
  some (.exit 2,((!decide (i<4))&&true),[],DX (g) (out)):=by kernel_rfl
theorem XX (k:Int) (w fr:List Int) (rows:List (List Int)) (out:List Int):aJ tt (aH T55) ([(0,⟨aE f136 0,A5 k w fr 0 [] 0,.normal,O1 w fr rows.length rows⟩),(2,⟨aE f136 2,AC w fr rows.length rows 0 [] 0,.normal,DX 4 out⟩)]) 100 f136 [.c (.int .i64 k),.c (.view none (.ints .i64 w) w.length 1 none),.c (.view none (.ints .i64 fr) fr.length 1 none)] [] []=
  some ⟨.c (.sl 0 0 4 1 none),[.live (.ints .i64 out)],true,[A5 k w fr 0 [] 0=A5 k w fr 0 [] 0,AC w fr rows.length rows 0 [] 0=AC w fr rows.length rows 0 [] 0]⟩:=by kernel_rfl
def XY (k:Int) (c:List Bool) (ats out:List Int):=bt1 (cD (rwL k c)) (P:=fun q0=>(aJ tt (aH T55) ([(0,⟨aE f137 0,A6 k c 0 [] 0,.normal,O2 k c ats.length ats⟩),(2,⟨aE f137 2,yB ats.length ats q0.length q0 0 [] 0,.normal,L4 out.length out⟩)]) 100 f137 [.c (.int .i64 k),.c (.view none (.bools c) c.length 1 none)] []) []=
  some ⟨.c (.sl 0 0 out.length 1 none),[.live (.ints .i64 out)],(bet k 1 2&&(decide (c.length=8)&&(decide ((rwL k c).length≤1000)&&((HL (rwL k c))&&true)))),[A6 k c 0 [] 0=A6 k c 0 [] 0,yB ats.length ats q0.length q0 0 [] 0=yB ats.length ats q0.length q0 0 [] 0]⟩) (by kernel_rfl)
end
section
def faS (c:List Bool) (i:Nat) (o:List Int):List Int:=bif c.getD i false then o++[(i:Int)]else o
theorem LX (c:List Bool): ∀(f i:Nat) (o:List Int),bI (faS c) f i o=o++f0 c f i
 |0,i,o=>by simp[bI,f0]
 |f+1,i,o=>by
  have e:bI (faS c) (f+1) i o=bI (faS c) f (i+1) (faS c i o):=rfl
  rw[e,LX c f (i+1)]
  simp only[f0,faS]
  cases c.getD i false<;>simp
theorem OZ {c:List Bool} (hc:c.length=8):bI (faS c) 8 0 []=flg c:=by rw[LX,flg,hc];rfl
theorem a93 (k:Int) (c:List Bool) (hc:c.length=8):
  aP none Tryz.prog 0 (.block 0 (.loop (aC 0 (aB f137)))) (A6 k c 0 [] 0) fun e t=>e=.normal∧t=O2 k c (flg c).length (flg c):=by
 have key:=aP.count (ro:=none) hT t54 bE (m:=0) (id:=0) (body:=aC 0 (aB f137)) 8 (fun i o=>o.length≤i) (fun i o=>A6 k c o.length o i) (fun o=>O2 k c o.length o) (faS c) (aE f137 0) (aG f137 0)
  (fun _ _=>[]) (fun _ _ _ _=>aL.nil) (fun i o hi h=> ?_) (fun o h=>⟨_,_,⟨_,_,VM k c o.length o (8:Nat),by simp,by simp⟩⟩) [] (by simp)
 ·rw[OZ hc]at key;exact key
 ·unfold faS
  cases hq:c.getD i false with
  |true=>
   refine⟨by simp;omega, ?_⟩
   have e:=VK k c o.length o i
   rw[aF (by omega) (by omega),Int.toNat_natCast]at e
   rw[cond_true,List.length_append]
   refine⟨_,_,⟨_,_,e, ?_,by simp⟩⟩
   simp only[hq,bS,rpS]
   omega
  |false=>
   refine⟨by rw[cond_false];omega, ?_⟩
   have e:=VL k c o.length o i
   rw[aF (by omega) (by omega),Int.toNat_natCast]at e
   rw[cond_false]
   refine⟨_,_,⟨_,_,e, ?_,by simp⟩⟩
   simp only[hq,bS,rpS]
   omega
def frS (c:List Bool) (fst:List Int) (i:Nat) (o:List Int):List Int:=o++[(flg c).getD (fst.getD i 0).toNat 0]
def frL (k:Int) (c:List Bool):List Int:=bI (frS c (cD (rwL k c))) (cD (rwL k c)).length 0 []
theorem kU (k:Int) (c:List Bool):(frL k c).length=(cD (rwL k c)).length:=
 aY (step:=frS c (cD (rwL k c))) (fun i o=>o.length=i) _ [] rfl fun i o _ h=>by simp[frS,h]
theorem a1J (ats c:List Int) (fst:List Int) (cc:List Bool) (ha:ats=flg cc) (hf:fst.length≤1000) (hp:d9 fst ats.length=true):
  aP none Tryz.prog 0 (.block 2 (.loop (aC 2 (aB f137)))) (yB ats.length ats fst.length fst 0 [] 0) fun e t=>e=.normal∧t=L4 fst.length (bI (frS cc fst) fst.length 0 []):=by
 have hl:(bI (frS cc fst) fst.length 0 []).length=fst.length:=aY (step:=frS cc fst) (fun i o=>o.length=i) _ [] rfl fun i o _ h=>by simp[frS,h]
 have key:=aP.count (ro:=none) hT t55 bE (m:=0) (id:=2) (body:=aC 2 (aB f137)) fst.length (fun i o=>o.length=i) (fun i o=>yB ats.length ats fst.length fst o.length o i) (fun o=>L4 o.length o) (frS cc fst) (aE f137 2) (aG f137 2)
  (fun _ _=>[]) (fun _ _ _ _=>aL.nil) (fun i o hi h=>⟨by simp[frS,h], ?_⟩) (fun o h=>⟨_,_,⟨_,_,UJ ats.length ats fst.length fst o.length o fst.length,by simp,by simp⟩⟩) [] rfl
 ·rw[hl]at key;exact key
 ·have hp':=gR hp hi
  have e:=UI ats.length ats fst.length fst o.length o i
  rw[aF (by omega) (by omega),Int.toNat_natCast]at e
  unfold frS
  rw[List.length_append,←ha]
  refine⟨_,_,⟨_,_,e, ?_,by simp⟩⟩
  simp only[bS,rpS]
  omega
def CX:aO:=fun args h=>
 match args,h with
 |[.c (.int .i64 k),.c (.view _ (.bools c) n 1 _)],[]=>
  some (.c (.sl 0 0 (frL k c).length 1 none),[.live (.ints .i64 (frL k c))],[bet k 1 2,decide (c.length=8),decide ((rwL k c).length≤1000),HL (rwL k c),d9 (cD (rwL k c)) (flg c).length,decide ((cD (rwL k c)).length≤1000)])
 |_,_=>none
theorem aAJ:aT Tryz.prog 208 CX:=by
 intro args h res h' o hnorm he ho
 unfold CX at he
 split at he
 case h_2=>cases he
 rename_i k nl c n cap
 simp only[Option.some.injEq,Prod.mk.injEq]at he
 obtain⟨rfl,rfl,rfl⟩:=he
 simp only[List.mem_cons,List.not_mem_nil,or_false,forall_eq_or_imp,forall_eq,decide_eq_true_eq]at ho
 obtain⟨o1,o2,o3,o4,o5,o6⟩:=ho
 simp only[b8,AV.norm,bA,aI.norm,Con.size,List.cons.injEq,AV.c.injEq,AV.agg.injEq,aI.view.injEq,aN,true_and,and_true]at hnorm
 obtain⟨rfl,rfl,rfl⟩:=hnorm
 have g:=a1J (flg c) [] (cD (rwL k c)) c rfl o6 o5
 have e:=XY k c (flg c) (frL k c)
 rw[←kU k c]at g
 have g':aP none Tryz.prog 0 (.block 2 (.loop (aC 2 (aB f137)))) (yB (flg c).length (flg c) (cD (rwL k c)).length (cD (rwL k c)) 0 [] 0) fun e t=>e=.normal∧t=L4 (frL k c).length (frL k c):=by rw[kU];rw[kU]at g;exact g
 exact mo (fn:=f137) t55 e (by simp only[o1,o2,o4,bS,rpS];omega) (hlc:=(fun cc hcc=>aL.cons (c:=cc) (by cases hcc;kernel_rfl) (by cases hcc;exact a93 k c o2) (aL.cons (by cases hcc;kernel_rfl) (by cases hcc;exact g') aL.nil)))
def rfS (k:Int) (fr:List Int) (i:Nat) (o:List (List Int)):List (List Int):=o++[bH k (fr.getD i 0)]
def rfL (k:Int) (fr:List Int):List (List Int):=bI (rfS k fr) fr.length 0 []
theorem QS {k:Int} {fr:List Int} (hk:bet k 1 2=true) (hf:bD fr=true):(rfL k fr).length=fr.length∧bX 4 (rfL k fr)=true:=
 aY (step:=rfS k fr) (fun i o=>o.length=i∧bX 4 o=true) fr.length [] ⟨rfl,rfl⟩ fun i o hi h=>by
  have hb:=dA hf hi
  exact⟨by simp[rfS,h.1],mP h.2 (kH hk hb) (kG hk hb)⟩
theorem a92 (k:Int) (w fr:List Int) (hk:bet k 1 2=true) (hf:bD fr=true) (hl:fr.length≤1000):
  aP none Tryz.prog 0 (.block 0 (.loop (aC 0 (aB f136)))) (A5 k w fr 0 [] 0) fun e t=>e=.normal∧t=O1 w fr (rfL k fr).length (rfL k fr):=by
 refine aP.count (ro:=none) hT t54 bE (m:=0) (id:=0) (body:=aC 0 (aB f136)) fr.length (fun i o=>o.length=i) (fun i o=>A5 k w fr o.length o i) (fun o=>O1 w fr o.length o) (rfS k fr) (aE f136 0) (aG f136 0)
  (fun _ _=>[]) (fun _ _ _ _=>aL.nil) (fun i o hi h=>⟨by simp[rfS,h], ?_⟩) (fun o h=>⟨_,_,⟨_,_,VJ k w fr o.length o fr.length,by simp,by simp⟩⟩) [] rfl
 have hb:=dA hf hi
 have e:=VI k w fr o.length o i
 rw[aF (by omega) (by omega),Int.toNat_natCast]at e
 unfold rfS
 rw[List.length_append]
 refine⟨_,_,⟨_,_,e, ?_,by simp⟩⟩
 simp only[hk,hb,bS,rpS]
 omega
def dtS (b w fr:List Int) (j:Nat) (n:Int):Int:=(n+b.getD j 0*w.getD (fr.getD j 0).toNat 0)%31
def dtN (b w fr:List Int):Int:=bI (dtS b w fr) fr.length 0 0
theorem a1L (w fr:List Int) (n:Nat) (rows:List (List Int)) (g:Nat) (out:List Int) (i:Int) (b:List Int) (hl:fr.length≤1000) (hb:fr.length≤b.length) (h1:aD b=true) (h2:aD w=true) (hw:w.length=8) (hf:bD fr=true):
  aP none Tryz.prog 0 (.block 4 (.loop (aC 4 (aB f136)))) (yC w fr n rows g out i b.length b 0 0) fun e t=>e=.normal∧t=L7 w fr n rows g out i (dtN b w fr):=by
 refine aP.count (ro:=none) hT t55 bE (m:=0) (id:=4) (body:=aC 4 (aB f136)) fr.length (fun _ x=>fok x=true) (fun j x=>yC w fr n rows g out i b.length b x j) (fun x=>L7 w fr n rows g out i x) (dtS b w fr) (aE f136 4) (aG f136 4)
  (fun _ _=>[]) (fun _ _ _ _=>aL.nil) (fun j x hj h=>⟨cB _, ?_⟩) (fun x h=>⟨_,_,⟨_,_,UP w fr n rows g out i b.length b x fr.length,by simp,by simp⟩⟩) 0 rfl
 have hs:=bQ.1 (dA hf hj)
 have e:=UO w fr n rows g out i b.length b x j
 rw[Int.toNat_natCast,sY h (aU h1 j) (aU h2 _),aF (by omega) (by omega)]at e
 refine⟨_,_,⟨_,_,e, ?_,by simp⟩⟩
 simp only[bS,rpS]
 omega
def dlS (k:Int) (w fr:List Int) (i:Nat) (o:List Int):List Int:=o++[dtN (byD (rfL k fr) (unL i)) w fr]
def dlL (k:Int) (w fr:List Int):List Int:=bI (dlS k w fr) 4 0 []
theorem NF {i:Nat} (hi:i<4):(unL i).length=4∧aD (unL i)=true:=by
 refine⟨by simp[unL], ?_⟩
 match i,hi with
 |0,_|1,_|2,_|3,_=>rfl
theorem OQ:aC 4 (aC 2 (aB f136))=aC 4 (aB f136):=by kernel_rfl
theorem a1I (k:Int) (w fr:List Int) (hk:bet k 1 2=true) (hf:bD fr=true) (hl:fr.length≤8) (h2:aD w=true) (hw:w.length=8) (hb:cN (fun i=>Nat.ble fr.length (byD (rfL k fr) (unL i)).length) 4=true):
  aP none Tryz.prog 0 (.block 2 (.loop (aC 2 (aB f136)))) (AC w fr (rfL k fr).length (rfL k fr) 0 [] 0) fun e t=>e=.normal∧t=DX 4 (dlL k w fr):=by
 obtain⟨r1,r2⟩:=QS hk hf
 have hl4:(dlL k w fr).length=4:=aY (step:=dlS k w fr) (fun i o=>o.length=i) 4 [] rfl fun i o _ h=>by simp[dlS,h]
 have key:=aP.count (ro:=none) hT t55 bE (m:=0) (id:=2) (body:=aC 2 (aB f136)) 4 (fun i o=>o.length=i) (fun i o=>AC w fr (rfL k fr).length (rfL k fr) o.length o i) (fun o=>DX o.length o) (dlS k w fr) (aE f136 2) (aG f136 2)
  (fun i o=>[(4,⟨aE f136 4,yC w fr (rfL k fr).length (rfL k fr) o.length o i (byD (rfL k fr) (unL i)).length (byD (rfL k fr) (unL i)) 0 0,.normal,L7 w fr (rfL k fr).length (rfL k fr) o.length o i (dtN (byD (rfL k fr) (unL i)) w fr)⟩)])
  (fun i o hi h=> ?_) (fun i o hi h=>⟨by simp[dlS,h], ?_⟩) (fun o h=>⟨_,_,⟨_,_,PB w fr (rfL k fr).length (rfL k fr) o.length o (4:Nat),by simp,by simp⟩⟩) [] rfl
 ·have e:DX (bI (dlS k w fr) 4 0 []).length (bI (dlS k w fr) 4 0 [])=DX 4 (dlL k w fr):=by
   have:(bI (dlS k w fr) 4 0 []).length=4:=hl4
   rw[this];rfl
  rw[e]at key;exact key
 ·obtain⟨u1,u2⟩:=NF hi
  obtain⟨q1,q2⟩:=FZ r2 u1 u2
  have hbi:=Nat.le_of_ble_eq_true (aX hb i hi)
  exact aL.cons (by kernel_rfl) (by rw[OQ];exact a1L w fr (rfL k fr).length (rfL k fr) o.length o i (byD (rfL k fr) (unL i)) (by omega) hbi q2 h2 hw hf) aL.nil
 ·obtain⟨u1,u2⟩:=NF hi
  have hbt:bet (i:Int) 0 3=true:=bQ.2 ⟨by omega,by omega⟩
  have e:=UH w fr (rfL k fr).length (rfL k fr) o.length o i (dtN (byD (rfL k fr) (unL i)) w fr)
  rw[aF (by omega) (by omega)]at e
  unfold dlS
  rw[List.length_append]
  refine⟨_,_,⟨_,_,e, ?_,by simp⟩⟩
  simp only[hbt,u1,u2,r1,r2,bS,rpS]
  omega
def CV:aO:=fun args h=>
 match args,h with
 |[.c (.int .i64 k),.c (.view _ (.ints .i64 w) n1 1 _),.c (.view _ (.ints .i64 fr) n2 1 _)],[]=>
  some (.c (.sl 0 0 4 1 none),[.live (.ints .i64 (dlL k w fr))],[bet k 1 2,bD fr,decide (fr.length≤8),aD w,decide (w.length=8),cN (fun i=>Nat.ble fr.length (byD (rfL k fr) (unL i)).length) 4])
 |_,_=>none
theorem aAI:aT Tryz.prog 207 CV:=by
 intro args h res h' o hnorm he ho
 unfold CV at he
 split at he
 case h_2=>cases he
 rename_i k nl w n1 cap nl2 fr n2 cap2
 simp only[Option.some.injEq,Prod.mk.injEq]at he
 obtain⟨rfl,rfl,rfl⟩:=he
 simp only[List.mem_cons,List.not_mem_nil,or_false,forall_eq_or_imp,forall_eq,decide_eq_true_eq]at ho
 obtain⟨o1,o2,o3,o4,o5,o6⟩:=ho
 simp only[b8,AV.norm,bA,aI.norm,Con.size,List.cons.injEq,AV.c.injEq,AV.agg.injEq,aI.view.injEq,aN,true_and,and_true]at hnorm
 obtain⟨⟨rfl,rfl,rfl⟩,rfl,rfl,rfl⟩:=hnorm
 exact mo (fn:=f136) t55 (XX k w fr (rfL k fr) (dlL k w fr)) (by simp) (hlc:=(fun cc hcc=>aL.cons (c:=cc) (by cases hcc;kernel_rfl) (by cases hcc;exact a92 k w fr o1 o2 (by omega)) (aL.cons (by cases hcc;kernel_rfl) (by cases hcc;exact a1I k w fr o1 o2 o3 o4 o5 o6) aL.nil)))
noncomputable def T56:List aZ:=[⟨208,[],nm CX⟩,⟨207,[],nm CV⟩]++T55
theorem e56:aA Tryz.prog T56:=by
 refine aA.append ?_ e55
 intro e he
 simp only[List.mem_cons,List.not_mem_nil,or_false]at he
 rcases he with rfl|rfl
 ·exact aAJ.ok
 ·exact aAI.ok
end
section
def okC (v:List Int) (out:List (List Int)):Bool:=decide (v.length≤274877906944)&&(decide (out.length≤1000)&&(iG v.length out&&aD v))
theorem oC (m:List (List Int)) (f i:Nat) (out:List (List Int)):d6 m (f+1) i out=(okC (m.getD i []) out&&d6 m f (i+1) (gW m i out)):=by
 rw[d6,okC]
theorem CE (m:List (List Int)) (x:List (List Int)): ∀(f i:Nat) (out:List (List Int)),i+f≤m.length→d6 (m++x) f i out=d6 m f i out∧bI (gW (m++x)) f i out=bI (gW m) f i out:=by
 intro f
 induction f with
 |zero=>intro i out h;exact⟨by rw[d6,d6],by rw[bI,bI]⟩
 |succ f ih=>
  intro i out h
  have e:(m++x).getD i []=m.getD i []:=by
   rw[List.getD_eq_getElem?_getD,List.getD_eq_getElem?_getD,List.getElem?_append_left (by omega)]
  have et:gW (m++x) i out=gW m i out:=by unfold gW;rw[e]
  obtain⟨i1,i2⟩:=ih (i+1) (gW m i out) (by omega)
  refine⟨?_, ?_⟩
  ·rw[oC,oC,e,et,i1]
  ·rw[bI,bI,et,i2]
theorem oB (m:List (List Int)): ∀(f i:Nat) (out:List (List Int)),d6 m (f+1) i out=(d6 m f i out&&okC (m.getD (i+f) []) (bI (gW m) f i out))∧bI (gW m) (f+1) i out=gW m (i+f) (bI (gW m) f i out)
 |0,i,out=>by
  refine⟨?_,rfl⟩
  simp only[d6,Bool.and_true,rpS,Bool.true_and,Nat.add_zero,okC];rfl
 |f+1,i,out=>by
  obtain⟨i1,i2⟩:=oB m f (i+1) (gW m i out)
  refine⟨?_, ?_⟩
  ·have e:d6 m (f+1+1) i out=((decide ((m.getD i []).length≤274877906944)&&(decide (out.length≤1000)&&(iG (m.getD i []).length out&&aD (m.getD i []))))&&d6 m (f+1) (i+1) (gW m i out)):=rfl
   have e2:d6 m (f+1) i out=((decide ((m.getD i []).length≤274877906944)&&(decide (out.length≤1000)&&(iG (m.getD i []).length out&&aD (m.getD i []))))&&d6 m f (i+1) (gW m i out)):=rfl
   have e3:bI (gW m) (f+1) i out=bI (gW m) f (i+1) (gW m i out):=rfl
   rw[e,i1,e2,e3,show i+(f+1)=i+1+f from by omega]
   simp only[Bool.and_assoc]
  ·show bI (gW m) (f+1) (i+1) (gW m i out)=_
   rw[i2,show i+1+f=i+(f+1)from by omega];rfl
theorem CF (m:List (List Int)) (v:List Int):eA (m++[v])=(eA m&&okC v (cP m))∧cP (m++[v])=jR (cP m) v:=by
 have hl:(m++[v]).length=m.length+1:=by simp
 obtain⟨s1,s2⟩:=oB (m++[v]) m.length 0 []
 obtain⟨a1,a2⟩:=CE m [v] m.length 0 [] (by omega)
 have e:(m++[v]).getD (0+m.length) []=v:=by
  rw[Nat.zero_add,List.getD_eq_getElem?_getD,List.getElem?_append_right (Nat.le_refl _)];simp
 unfold eA cP
 rw[hl,s1,s2,a1,a2,e]
 refine⟨rfl, ?_⟩
 unfold gW
 rw[e]
theorem FB {m:List (List Int)} {n:Nat} (h:n<m.length):m.take (n+1)=m.take n++[m.getD n []]:=by
 rw[List.take_add_one,List.getD_eq_getElem?_getD,List.getElem?_eq_getElem h];rfl
def fsG (m:List (List Int)):Nat→Nat→List (List Int)→List Int→(List (List Int)→List Int→Bool)→Bool
 |0,_,t,o,k=>k t o
 |f+1,i,t,o,k=>(okC (m.getD i []) t&&decide ((m.getD i []).length≤1000))&&fLL (jR t (m.getD i [])) fun t'=>bif Nat.beq t'.length t.length then fsG m f (i+1) t' o k else fsG m f (i+1) t' (o++[(i:Int)]) k
theorem B4 (m:List (List Int)) (hm:m.length≤1000) (k:List (List Int)→List Int→Bool): ∀(f i:Nat) (o:List Int),i+f=m.length→eA (m.take i)=true→fsG m f i (cP (m.take i)) o k=true→
  (∀j,i≤j→j<m.length→lO (m.take j) (m.getD j [])=true)∧eA m=true∧k (cP m) (bI (fsS m) f i o)=true
 |0,i,o,h,ht,hg=>by
  have e:m.take i=m:=List.take_of_length_le (by omega)
  rw[e]at ht hg
  exact⟨fun j h1 h2=>by omega,ht,hg⟩
 |f+1,i,o,h,ht,hg=>by
  have hi:i<m.length:=by omega
  simp only[fsG,k8,Bool.and_eq_true,rpS,decide_eq_true_eq]at hg
  obtain⟨⟨h1,h2⟩,h3⟩:=hg
  obtain⟨s1,s2⟩:=CF (m.take i) (m.getD i [])
  rw[←FB hi]at s1 s2
  have ht':eA (m.take (i+1))=true:=by rw[s1,ht,h1];rfl
  have h1':=h1
  simp only[okC,Bool.and_eq_true,rpS,decide_eq_true_eq]at h1'
  have hh:lO (m.take i) (m.getD i [])=true:=by
   simp only[lO,Bool.and_eq_true,rpS,decide_eq_true_eq]
   exact⟨by rw[List.length_take];omega,ht,h2,h1'.2.1,h1'.2.2.1,h1'.2.2.2⟩
  have e:iC (m.take i) (m.getD i [])=Nat.beq (jR (cP (m.take i)) (m.getD i [])).length (cP (m.take i)).length:=by
   unfold iC
   rw[Bool.eq_iff_iff,beq_iff_eq,Nat.beq_eq]
   omega
  have go: ∀o',fsG m f (i+1) (jR (cP (m.take i)) (m.getD i [])) o' k=true→fsS m i o=o'→(∀j,i≤j→j<m.length→lO (m.take j) (m.getD j [])=true)∧eA m=true∧k (cP m) (bI (fsS m) (f+1) i o)=true:=fun o' hg he=>by
   rw[←s2]at hg
   obtain⟨r1,r2,r3⟩:=B4 m hm k f (i+1) o' (by omega) ht' hg
   refine⟨fun j j1 j2=> ?_,r2, ?_⟩
   ·by_cases ej:j=i
    ·subst ej;exact hh
    ·exact r1 j (by omega) j2
   ·show k (cP m) (bI (fsS m) f (i+1) (fsS m i o))=true
    rw[he];exact r3
  cases hb:Nat.beq (jR (cP (m.take i)) (m.getD i [])).length (cP (m.take i)).length with
  |true=>rw[hb]at h3;exact go o h3 (by unfold fsS;rw[e,hb];rfl)
  |false=>rw[hb]at h3;exact go _ h3 (by unfold fsS;rw[e,hb];rfl)
def G7 (k:Int) (rows:List (List Int)) (i:Nat):Bool:=fL (byD rows (bH k i)) fun b=>Nat.beq b.length rows.length&&cN (fun q=>EP (vZ (fun j=>b.getD j 0*(rows.getD j []).getD q 0) rows.length-(bH k i).getD q 0)) 4
def okG (k:Int) (c:List Bool):Nat→Nat→List (List Int)→List (List Int)→(List (List Int)→Bool)→Bool
 |0,_,rows,t,K=>K rows
 |f+1,i,rows,t,K=>bif c.getD i false then((decide (rows.length≤1000)&&(okC (bH k i) t&&decide ((bH k i).length≤1000)))&&fLL (jR t (bH k i)) fun t'=>bif Nat.beq t'.length t.length then G7 k rows i&&okG k c f (i+1) rows t K else okG k c f (i+1) (rows++[bH k i]) t' K)else okG k c f (i+1) rows t K
def AP (k:Int) (c:List Bool):Nat→Nat→List (List Int)→Bool
 |0,_,_=>true
 |f+1,i,rows=>(bif c.getD i false&&iC rows (bH k i)then G7 k rows i else true)&&AP k c f (i+1) (rwT k c i rows)
theorem nO (k:Int) (c:List Bool) (K:List (List Int)→Bool): ∀(f i:Nat) (rows:List (List Int)),eA rows=true→okG k c f i rows (cP rows) K=true→
  BJ k c f i rows=true∧AP k c f i rows=true∧K (bI (rwT k c) f i rows)=true
 |0,i,rows,ht,h=>⟨rfl,rfl,h⟩
 |f+1,i,rows,ht,h=>by
  simp only[okG,BJ,AP]at h⊢
  have er:bI (rwT k c) (f+1) i rows=bI (rwT k c) f (i+1) (rwT k c i rows):=rfl
  rw[er]
  cases hc:c.getD i false with
  |false=>
   rw[hc,cond_false]at h
   have e:rwT k c i rows=rows:=by unfold rwT;rw[hc];rfl
   rw[e]
   simpa using nO k c K f (i+1) rows ht h
  |true=>
   rw[hc,cond_true]at h
   simp only[k8,Bool.and_eq_true,rpS,decide_eq_true_eq]at h
   obtain⟨⟨h0,h1,h2⟩,h3⟩:=h
   have h1':=h1
   simp only[okC,Bool.and_eq_true,rpS,decide_eq_true_eq]at h1'
   have hh:lO rows (bH k i)=true:=by
    simp only[lO,Bool.and_eq_true,rpS,decide_eq_true_eq]
    exact⟨h0,ht,h2,h1'.2.1,h1'.2.2.1,h1'.2.2.2⟩
   have e:iC rows (bH k i)=Nat.beq (jR (cP rows) (bH k i)).length (cP rows).length:=by
    unfold iC
    rw[Bool.eq_iff_iff,beq_iff_eq,Nat.beq_eq]
    omega
   obtain⟨s1,s2⟩:=CF rows (bH k i)
   cases hb:Nat.beq (jR (cP rows) (bH k i)).length (cP rows).length with
   |true=>
    rw[hb,cond_true,Bool.and_eq_true]at h3
    have er:rwT k c i rows=rows:=by unfold rwT;rw[hc,e,hb];rfl
    rw[er]
    obtain⟨r1,r2,r3⟩:=nO k c K f (i+1) rows ht h3.2
    refine⟨by simp[hh,r1],by rw[e,hb];simp[h3.1,r2],r3⟩
   |false=>
    rw[hb,cond_false,←s2]at h3
    have er:rwT k c i rows=rows++[bH k i]:=by unfold rwT;rw[hc,e,hb];rfl
    rw[er]
    obtain⟨r1,r2,r3⟩:=nO k c K f (i+1) (rows++[bH k i]) (by rw[s1,ht,h1];rfl) h3
    refine⟨by simp[hh,r1],by rw[e,hb];simp[r2],r3⟩
def HI (k:Int):Nat→Nat→List (List Int)→List Int→(List Int→Bool)→Bool
 |0,_,t,T,K=>K T
 |f+1,i,t,T,K=>bif Nat.ble 4 T.length then K T else fLL (jR t (bH k i)) fun t'=>bif Nat.beq t'.length t.length then HI k f (i+1) t T K else HI k f (i+1) t' (T++[(i:Int)]) K
theorem oR (k:Int) (K:List Int→Bool): ∀(f i:Nat) (t:List (List Int)) (T:List Int),HI k f i t T K=true→ ∃X,K (T++X)=true∧(4≤T.length→X=[])
 |0,i,t,T,h=>⟨[],by simpa [HI]using h,fun _=>rfl⟩
 |f+1,i,t,T,h=>by
  simp only[HI,k8]at h
  cases hl:Nat.ble 4 T.length with
  |true=>rw[hl]at h;exact⟨[],by simpa using h,fun _=>rfl⟩
  |false=>
   have hn: ¬4≤T.length:=fun h'=>by rw[Nat.ble_eq_true_of_le h']at hl;cases hl
   rw[hl,cond_false]at h
   cases hb:Nat.beq (jR t (bH k i)).length t.length with
   |true=>
    rw[hb]at h
    obtain⟨X,h1,h2⟩:=oR k K f (i+1) t T h
    exact⟨X,h1,h2⟩
   |false=>
    rw[hb]at h
    obtain⟨X,h1,h2⟩:=oR k K f (i+1) _ _ h
    exact⟨(i:Int)::X,by simpa using h1,fun h'=>absurd h' hn⟩
def dl (i j:Nat):Int:=bif Nat.beq i j then 1 else 0
def HC (r:List Int):List Int:=bif bet (bB r) 0 3 then []else dX (r.drop 4) 30
def byG:Nat→Nat→List (List Int)→List Int→List Int→List Int→List Int→(List Int→List Int→List Int→List Int→Bool)→Bool
 |0,_,_,a,b,c,d,K=>K a b c d
 |f+1,i,rows,a,b,c,d,K=>match cG (byF rows i) rows.length 0 ()with
  |.inl _=>byG f (i+1) rows a b c d K
  |.inr j=>fLL (byK i j rows) fun rows'=>fL (nlL a (rows'.getD j [])) fun a'=>fL (nlL b (rows'.getD j [])) fun b'=>fL (nlL c (rows'.getD j [])) fun c'=>fL (nlL d (rows'.getD j [])) fun d'=>byG f (i+1) rows' a' b' c' d' K
theorem E7 (K:List Int→List Int→List Int→List Int→Bool): ∀(f i:Nat) (rows:List (List Int)) (a b c d:List Int),byG f i rows a b c d K=K (bI byT f i (rows,a)).2 (bI byT f i (rows,b)).2 (bI byT f i (rows,c)).2 (bI byT f i (rows,d)).2
 |0,i,rows,a,b,c,d=>rfl
 |f+1,i,rows,a,b,c,d=>by
  have e: ∀x,bI byT (f+1) i (rows,x)=bI byT f (i+1) (byT i (rows,x)):=fun _=>rfl
  rw[e,e,e,e]
  unfold byG byT
  dsimp only
  cases cG (byF rows i) rows.length 0 ()with
  |inl _=>exact E7 K f (i+1) rows a b c d
  |inr j=>simp only[n7,k8];exact E7 K f (i+1) _ _ _ _ _
def byN (m:List (List Int)) (K:List (List Int)→Bool):Bool:=
 fLL (bwL m) fun rows=>byG 4 0 rows (unL 0++List.replicate m.length 0) (unL 1++List.replicate m.length 0) (unL 2++List.replicate m.length 0) (unL 3++List.replicate m.length 0) fun a b c d=>
  fL (HC a) fun a=>fL (HC b) fun b=>fL (HC c) fun c=>fL (HC d) fun d=>K [a,b,c,d]
theorem TS (m:List (List Int)) (K:List (List Int)→Bool):byN m K=K [byD m (unL 0),byD m (unL 1),byD m (unL 2),byD m (unL 3)]:=by
 have e: ∀v,byD m v=HC (bI byT 4 0 (bwL m,v++List.replicate m.length 0)).2:=fun v=>by unfold byD HC byE;rfl
 simp only[byN,n7,k8,E7,e]
def OU (k:Int) (T:List Int):Bool:=fLL (rfL k T) fun m=>byN m fun N=>Nat.beq T.length 4&&(bD T&&(cN (fun i=>Nat.beq (N.getD i []).length 4&&(cN (fun j=>EP (vZ (fun q=>(m.getD i []).getD q 0*(N.getD q []).getD j 0) 4-dl i j)) 4&&
 cN (fun q=>EP (vZ (fun j=>(N.getD i []).getD j 0*(m.getD j []).getD q 0) 4-dl i q)) 4)) 4))
def frF (c:List Bool) (fst:List Int):List Int:=bI (frS c fst) fst.length 0 []
def HF (k:Int) (c:List Bool):Bool:=fLL (rwL k c) fun m=>decide (m.length≤1000)&&fsG m m.length 0 [] [] fun t fst=>Nat.beq fst.length t.length&&(Nat.ble fst.length 4&&(d9 fst (flg c).length&&fL (frF c fst) fun T=>
 okG k c 8 0 [] [] fun rows=>(rows==rfL k T)&&HI k 8 0 t T fun T'=>fL T' fun T'=>OU k T'))
end
end Go.Proofs.YtdnfojanjejdgaaGreat.Am
