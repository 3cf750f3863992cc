/- DERIVED. Part 12 of the proof: P5, C45, C46, C47, C48, C49, C50, C51, C52, P6. No statement of the program is proved here. -/
import Derived.Test.YtdnfojanjejdgaaGreatX11
set_option linter.unusedSimpArgs false
set_option linter.unusedVariables false
set_option linter.unusedSectionVars false
namespace Go.Proofs.YtdnfojanjejdgaaGreat.Am
section
theorem J7 {k:Int} {c:List Bool} (hk:bet k 1 2=true) (hc:c.length=8):E2 k (flg c) (spK k (flg c)).1 (spK k (flg c)).2.length=true∧E3 (eE k z8 (flg c)) (spK k (flg c)).2.length=true∧E4 k c (eE k z8 (flg c)) (spK k (flg c)).2.length=true:=
 HX (P:=fun k c=>E2 k (flg c) (spK k (flg c)).1 (spK k (flg c)).2.length=true∧E3 (eE k z8 (flg c)) (spK k (flg c)).2.length=true∧E4 k c (eE k z8 (flg c)) (spK k (flg c)).2.length=true) (f:=CP)
  (fun k c h=>J8 h) QW QX QY QZ hk hc
theorem CV {n:Nat} {zs:List Int} (hz:zs.length=n*5) {i j:Nat} {at_:Int} (hj:j<n) (hi:i<n) (hij:j≠i) {p:Nat} (hp:p<n):
  (mS zs i at_ j).getD (p*5+4) 0=if p=j then(zs.getD (j*5+4) 0-zs.getD (i*5+4) 0*elC zs at_ j%31)%31 else zs.getD (p*5+4) 0:=by
 have r4: ∀p,p<n→(lI zs i at_ j).getD (p*5+4) 0=zs.getD (p*5+4) 0:=fun p hp=>by
  unfold lI KP
  rw[bD,if_neg (by omega),bD,if_neg (by omega),bD,if_neg (by omega),bD,if_neg (by omega)]
 have hl:(lI zs i at_ j).length=zs.length:=by simp[lI,KP]
 unfold mS
 by_cases e:p=j
 ·subst e
  rw[if_pos rfl,bD,if_pos ⟨rfl,by omega⟩,r4 p hp,r4 i hi]
 ·rw[if_neg e,bD,if_neg (by omega),r4 p hp]
def rY (n:Nat) (d zs:List Int):Prop:=zs.length=n*5∧ ∀j,j<n→zz (zs.getD (j*5+4) 0)=zz (zs.getD (j*5+0) 0)*zz (d.getD 0 0)+zz (zs.getD (j*5+1) 0)*zz (d.getD 1 0)+zz (zs.getD (j*5+2) 0)*zz (d.getD 2 0)+zz (zs.getD (j*5+3) 0)*zz (d.getD 3 0)
theorem rY.elim {n i j:Nat} {at_:Int} {d zs:List Int} (h:rY n d zs) (hi:i<n) (hj:j<n):rY n d (jG i at_ j zs):=by
 obtain⟨h1,h2⟩:=h
 unfold jG
 cases hb:((j:Int)!=(i:Int))&&(elC zs at_ j !=0)
 ·exact⟨h1,h2⟩
 ·have hij:j≠i:=by
   intro e;subst e;simp at hb
  rw[cond_true]
  refine⟨by rw[kT];exact h1,fun p hp=> ?_⟩
  rw[CV h1 hj hi hij hp,g9 h1 hj hp (by omega),g9 h1 hj hp (by omega),g9 h1 hj hp (by omega),g9 h1 hj hp (by omega)]
  by_cases e:p=j
  ·subst e
   simp only[if_true]
   unfold elE
   simp only[uN,WN,mL,gS,a5G,h2 p hp,h2 i hi]
   grind
  ·simp only[if_neg e]
   exact h2 p hp
theorem rY.red {n:Nat} {d:List Int}: ∀(f i:Nat) {zs:List Int},rY n d zs→i+f≤n→rY n d (bH (lE n) f i zs)
 |0,i,zs,h,_=>h
 |f+1,i,zs,h,hi=>by
  refine rY.red f (i+1) (zs:=lE n i zs) ?_ (by omega)
  exact aY (step:=jG i (ld5 zs i)) (fun _ z=>rY n d z) n zs h fun j z hj hz=>hz.elim (by omega) hj
theorem G8 (w v ys:List Int) (r:Nat):(lS w v ys r).length=r*5∧ ∀j,j<r→(∀q,q<4→(lS w v ys r).getD (j*5+q) 0=ys.getD (j*12+q) 0)∧(lS w v ys r).getD (j*5+4) 0=BA w v (lG ys j):=by
 refine aY (step:=jL w v ys) (fun i zs=>zs.length=i*5∧ ∀j,j<i→(∀q,q<4→zs.getD (j*5+q) 0=ys.getD (j*12+q) 0)∧zs.getD (j*5+4) 0=BA w v (lG ys j)) r [] ⟨rfl,fun j hj=>by omega⟩ fun k zs hk h=> ?_
 obtain⟨h1,h2⟩:=h
 refine⟨by simp[jL,h1];omega,fun j hj=>⟨fun q hq=> ?_, ?_⟩⟩
 ·unfold jL
  rw[dS,h1]
  by_cases e:j*5+q<k*5
  ·rw[if_pos e];exact(h2 j (by omega)).1 q hq
  ·rw[if_neg e]
   have:j=k:=by omega
   subst this
   rw[show j*5+q-j*5=q from by omega]
   match q,hq with
   |0,_|1,_|2,_|3,_=>rfl
 ·unfold jL
  rw[dS,h1]
  by_cases e:j*5+4<k*5
  ·rw[if_pos e];exact(h2 j (by omega)).2
  ·rw[if_neg e]
   have:j=k:=by omega
   subst this
   rw[show j*5+4-j*5=4 from by omega]
   rfl
theorem KG (ys:List Int) (i:Nat) {q:Nat} (hq:q<12):(lG ys i).getD q 0=ys.getD (i*12+q) 0:=by
 match q,hq with
 |0,_|1,_|2,_|3,_|4,_|5,_|6,_|7,_|8,_|9,_|10,_|11,_=>rfl
theorem AD (zs r:List Int): ∀n,(∀i,i<n→bet (ld5 zs i) 0 3=true)→(∀i,i<n→ ∀j,j<i→ld5 zs i≠ld5 zs j)→
  dz r (uZ zs n)=dZ (fun i=>zz (r.getD (ld5 zs i).toNat 0)*zz (zs.getD (i*5+4) 0)) n∧(uZ zs n).length=4∧ ∀q:Nat,q<4→(∀i,i<n→ld5 zs i≠(q:Int))→(uZ zs n).getD q 0=0
 |0,_,_=>⟨by
   show dz r [0,0,0,0]=0
   simp only[dz,List.getD_cons_zero,List.getD_cons_succ,l9];grind,rfl,fun q hq _=>by
   match q,hq with
   |0,_|1,_|2,_|3,_=>rfl⟩
 |n+1,hb,hd=>by
  obtain⟨i1,i2,i3⟩:=AD zs r n (fun i hi=>hb i (by omega)) (fun i hi j hj=>hd i (by omega) j hj)
  have e:uZ zs (n+1)=(uZ zs n).set (ld5 zs n).toNat (zs.getD (n*5+4) 0):=by
   have gen: ∀(f i:Nat) (o:List Int),bH (v4 zs) (f+1) i o=v4 zs (i+f) (bH (v4 zs) f i o):=by
    intro f
    induction f with
    |zero=>intro i o;rfl
    |succ f ih=>intro i o;have:=ih (i+1) (v4 zs i o);rw[show i+1+f=i+(f+1)from by omega]at this;exact this
   have:=gen n 0 [0,0,0,0]
   rw[Nat.zero_add]at this
   exact this
  have hbn:=bN.1 (hb n (by omega))
  have z:(uZ zs n).getD (ld5 zs n).toNat 0=0:=i3 (ld5 zs n).toNat (by omega) fun i hi he=>hd n (by omega) i hi (by omega)
  rw[e]
  refine⟨?_,by rw[List.length_set];exact i2,fun q hq hn=> ?_⟩
  ·simp only[dZ]
   rw[←i1]
   have hp:(ld5 zs n).toNat<4:=by omega
   revert z hp
   generalize (ld5 zs n).toNat=p
   generalize zs.getD (n*5+4) 0=x
   intro z hp
   simp only[dz,bD,i2]
   match p,hp with
   |0,_=>simp[-List.getD_eq_getElem?_getD];rw[z,l9];grind
   |1,_=>simp[-List.getD_eq_getElem?_getD];rw[z,l9];grind
   |2,_=>simp[-List.getD_eq_getElem?_getD];rw[z,l9];grind
   |3,_=>simp[-List.getD_eq_getElem?_getD];rw[z,l9];grind
  ·rw[bD,if_neg (by have:=hn n (by omega);omega)]
   exact i3 q hq fun i hi=>hn i (by omega)
theorem MH {k:Int} {w:List Int} {c:List Bool} {d:List Int} (hk:bet k 1 2=true) (hc:c.length=8) (h:Fit k w c d):Fit k w c (dL k w (flg c)):=by
 obtain⟨a1,a2,a3⟩:=J7 hk hc
 obtain⟨so,re⟩:=u9 (w:=w) (w':=z8) (wJ (w:=z8) hk hc)
 simp only[dO,Bool.and_eq_true,rpS]at so
 obtain⟨t1,t2⟩:=G8 w (flg c) (spK k (flg c)).1 (spK k (flg c)).2.length
 have sp:=yF hk (oN hc)
 have g0:rY (spK k (flg c)).2.length d (B6 k w (flg c)):=by
  refine⟨t1,fun j hj=> ?_⟩
  obtain⟨u1,u2⟩:=t2 j hj
  unfold B6
  rw[u2,u1 0 (by omega),u1 1 (by omega),u1 2 (by omega),u1 3 (by omega),P8]
  have e:dZ (fun j'=>zz ((lG (spK k (flg c)).1 j).getD (j'+4) 0)*zz (w.getD ((flg c).getD j' 0).toNat 0)) (flg c).length=dZ (fun j'=>zz ((spK k (flg c)).1.getD (j*12+(j'+4)) 0)*dz (aH k ((flg c).getD j' 0)) d) (flg c).length:=by
   refine dE fun i hi=> ?_
   have hl:=n7 c
   rw[KG _ _ (by omega)]
   obtain⟨a,ha,hca,hg⟩:=r9 hc hi
   rw[hg,Int.toNat_natCast,←h a ha hca,hZ]
  rw[e,rI (flg c).length _ (fun j'=>aH k ((flg c).getD j' 0)) [(spK k (flg c)).1.getD (j*12+0) 0,(spK k (flg c)).1.getD (j*12+1) 0,(spK k (flg c)).1.getD (j*12+2) 0,(spK k (flg c)).1.getD (j*12+3) 0] d fun q hq=> ?_]
  ·rfl
  ·have:=nD (aX (aX a1 j hj) q hq)
   rw[jB]at this
   simp only[gS]at this
   rw[this]
   match q,hq with
   |0,_|1,_|2,_|3,_=>rfl
 have g1:rY (spK k (flg c)).2.length d (eE k w (flg c)):=rY.red _ 0 g0 (by omega)
 intro a ha hca
 refine uM (k6 _ _ _) (by rw[←h a ha hca];exact k6 _ _ _) ?_
 rw[hZ,←h a ha hca,hZ]
 have ld: ∀i,i<(spK k (flg c)).2.length→ld5 (eE k w (flg c)) i=ld5 (eE k z8 (flg c)) i:=fun i hi=>re.ld hi
 obtain⟨o1,-,-⟩:=AD (eE k w (flg c)) (aH k a) (spK k (flg c)).2.length (fun i hi=>aX so.2 i hi) (fun i hi j hj=>by
  have:=aX (aX a2 i hi) j hj
  rw[ld i hi,ld j (by omega)]
  simpa using this)
 unfold dL
 rw[o1]
 have e:dZ (fun i=>zz ((aH k a).getD (ld5 (eE k w (flg c)) i).toNat 0)*zz ((eE k w (flg c)).getD (i*5+4) 0)) (spK k (flg c)).2.length=
   dZ (fun i=>zz ((aH k a).getD (ld5 (eE k z8 (flg c)) i).toNat 0)*dz [(eE k z8 (flg c)).getD (i*5+0) 0,(eE k z8 (flg c)).getD (i*5+1) 0,(eE k z8 (flg c)).getD (i*5+2) 0,(eE k z8 (flg c)).getD (i*5+3) 0] d) (spK k (flg c)).2.length:=by
  refine dE fun i hi=> ?_
  rw[ld i hi,g1.2 i hi,re.2.2 i hi 0 (by omega),re.2.2 i hi 1 (by omega),re.2.2 i hi 2 (by omega),re.2.2 i hi 3 (by omega)]
  rfl
 rw[e]
 refine rI _ _ (fun i=>[(eE k z8 (flg c)).getD (i*5+0) 0,(eE k z8 (flg c)).getD (i*5+1) 0,(eE k z8 (flg c)).getD (i*5+2) 0,(eE k z8 (flg c)).getD (i*5+3) 0]) _ d fun q hq=> ?_
 have h3:=aX a3 a ha
 rw[hca,Bool.not_true,Bool.false_or]at h3
 have:=nD (aX h3 q hq)
 rw[jB]at this
 simp only[gS]at this
 rw[←this]
 refine dE fun i hi=> ?_
 match q,hq with
 |0,_|1,_|2,_|3,_=>rfl
theorem pW {k:Int} {w:List Int} {c:List Bool} {d:List Int} (hk:bet k 1 2=true) (hc:c.length=8) (h:Fit k w c d):cE k w (flg c)=true:=(mY hc).2 (MH hk hc h)
end
section
noncomputable def T51:List aZ:=[⟨157,[],dV tt (a9 T50) Tryz.f157 []⟩]++T50
theorem e51:a7 Tryz.prog T51:=by
 refine a7.append ?_ e50
 intro e he
 simp only[List.mem_cons,List.not_mem_nil,or_false]at he
 subst he;exact JS
theorem t51:bK Tryz.prog (a9 T51):=aO e51
noncomputable abbrev jR:=Tryz.f159
noncomputable def uO (k:Int) (a b:List Int) (c:List Bool) (x:Int) (n:Nat) (out:List Bool) (i:Int):St:=
 aR jR.ntmps [(1,.c (.int .i64 x)),(2,.c (.ptr 0 0 0 0)),(5,.c (.sl 1 0 n 1 none)),(6,.c (.int .i64 i))] [.live (.cells [.int .i64 k,.view none (.ints .i64 a) a.length 1 none,.view none (.ints .i64 b) b.length 1 none,.view none (.bools c) c.length 1 none]),.live (.bools out)]
noncomputable def LA (n:Nat) (out:List Bool):St:=aR jR.ntmps [(5,.c (.sl 0 0 n 1 none))] [.live (.bools out)]
theorem RV (k:Int) (a b:List Int) (c:List Bool) (x:Int) (n:Nat) (out:List Bool) (i:Int):aC 0 (a6 jR 0) (a8 jR 0) (aD tt (a9 T51) ([]) 0 100 (a5 0 (a0 jR)) (uO k a b c x n out i) [(0,true),(0,true)])=
  some (.normal,(decide (i<(↑c.length:Int))&&(decide (0≤i)&&(decide (i<(↑c.length:Int))&&(decide (i.toNat<c.length)&&(rp4 (c.getD i.toNat false) (decide (0≤i)&&(decide (i<(↑b.length:Int))&&((c.getD i.toNat false)&&(decide (i.toNat<b.length)&&(rp2 (c.getD i.toNat false) (decide (n=out.length)&&((decide (n+1≤274877906944))&&true)))))))))))),[],uO k a b c x (n+1) (out++[bif c.getD i.toNat false then b.getD i.toNat 0==x else false]) (IntKind.i64.wrap (i+1))):=by kernel_rfl
theorem RW (k:Int) (a b:List Int) (c:List Bool) (x:Int) (n:Nat) (out:List Bool) (i:Int):aC 0 (a6 jR 0) (a8 jR 0) (aD tt (a9 T51) ([]) 0 100 (a5 0 (a0 jR)) (uO k a b c x n out i) [(0,true),(0,false)])=
  some (.normal,(decide (i<(↑c.length:Int))&&(decide (0≤i)&&(decide (i<(↑c.length:Int))&&(decide (i.toNat<c.length)&&(rp8 (!c.getD i.toNat false) (decide (n=out.length)&&((decide (n+1≤274877906944))&&true))))))),[],uO k a b c x (n+1) (out++[false]) (IntKind.i64.wrap (i+1))):=by kernel_rfl
theorem RX (k:Int) (a b:List Int) (c:List Bool) (x:Int) (n:Nat) (out:List Bool) (i:Int):aC 0 (a6 jR 0) (a8 jR 0) (aD tt (a9 T51) ([]) 0 100 (a5 0 (a0 jR)) (uO k a b c x n out i) [(0,false)])=
  some (.exit 0,((!decide (i<(↑c.length:Int)))&&true),[],LA (n) (out)):=by kernel_rfl
noncomputable abbrev f58:=Tryz.f111
noncomputable def I58 (k:Int) (a b:List Int) (c:List Bool) (n i:Int):St:=aR f58.ntmps [(1,.c (.ptr 0 0 0 0)),(3,.c (.int .i64 n)),(4,.c (.int .i64 i))] [.live (.cells [.int .i64 k,.view none (.ints .i64 a) a.length 1 none,.view none (.ints .i64 b) b.length 1 none,.view none (.bools c) c.length 1 none])]
noncomputable def X58 (n:Int):St:=aR f58.ntmps [(3,.c (.int .i64 n))] []
theorem ZM (k:Int) (a b:List Int) (c:List Bool) (n i:Int):aC 0 (a6 f58 0) (a8 f58 0) (aD tt (a9 T51) ([]) 0 100 (a5 0 (a0 f58)) (I58 k a b c n i) [(0,true)])=
  some (.normal,(decide (i<(↑b.length:Int))&&(decide (0≤i)&&(decide (i<(↑b.length:Int))&&((decide (i.toNat<b.length))&&true)))),[],I58 k a b c (if b.getD i.toNat 0>n then b.getD i.toNat 0 else n) (IntKind.i64.wrap (i+1))):=by kernel_rfl
theorem ZN (k:Int) (a b:List Int) (c:List Bool) (n i:Int):aC 0 (a6 f58 0) (a8 f58 0) (aD tt (a9 T51) ([]) 0 100 (a5 0 (a0 f58)) (I58 k a b c n i) [(0,false)])=
  some (.exit 0,((!decide (i<(↑b.length:Int)))&&true),[],X58 (n)):=by kernel_rfl
noncomputable abbrev f55:=Tryz.f108
noncomputable def I55 (v:List Int) (c:List Bool) (i:Int):St:=aR f55.ntmps [(0,.c (.view none (.ints .i64 v) v.length 1 none)),(1,.c (.view none (.bools c) c.length 1 none)),(5,.c (.int .i64 i))] []
noncomputable def X55 (v:List Int) (c:List Bool):St:=aR f55.ntmps [(0,.c (.view none (.ints .i64 v) v.length 1 none)),(1,.c (.view none (.bools c) c.length 1 none))] []
noncomputable def Y55 (v:List Int) (c:List Bool):St:=aR f55.ntmps [(0,.c (.view none (.ints .i64 v) v.length 1 none)),(1,.c (.view none (.bools c) c.length 1 none)),(4,.c (.bool false))] []
theorem Z8 (v:List Int) (c:List Bool) (i:Int):aC 0 (a6 f55 0) (a8 f55 0) (aD tt (a9 T51) ([]) 0 100 (a5 0 (a0 f55)) (I55 v c i) [(0,true),(0,true)])=
  some (.ret,(decide (i<(↑v.length:Int))&&(decide (0≤i)&&(decide (i<(↑v.length:Int))&&(decide (i.toNat<v.length)&&((!fok (v.getD i.toNat 0))&&true))))),[],Y55 v c):=by kernel_rfl
theorem Z9 (v:List Int) (c:List Bool) (i:Int):aC 0 (a6 f55 0) (a8 f55 0) (aD tt (a9 T51) ([]) 0 100 (a5 0 (a0 f55)) (I55 v c i) [(0,true),(0,false)])=
  some (.normal,(decide (i<(↑v.length:Int))&&(decide (0≤i)&&(decide (i<(↑v.length:Int))&&(decide (i.toNat<v.length)&&((!!fok (v.getD i.toNat 0))&&true))))),[],I55 v c (IntKind.i64.wrap (i+1))):=by kernel_rfl
theorem ZA (v:List Int) (c:List Bool) (i:Int):aC 0 (a6 f55 0) (a8 f55 0) (aD tt (a9 T51) ([]) 0 100 (a5 0 (a0 f55)) (I55 v c i) [(0,false)])=
  some (.exit 0,((!decide (i<(↑v.length:Int)))&&true),[],X55 v c):=by kernel_rfl
theorem a34 (k:Int) (a b:List Int) (c:List Bool) (on:Bool) (kd:Int) (d:List Int) (vs:Int):aE tt (a9 T51) ([]) 100 Tryz.f133 [.agg [.int .i64 k,.view none (.ints .i64 a) a.length 1 none,.view none (.ints .i64 b) b.length 1 none,.view none (.bools c) c.length 1 none,.bool on,.int .i64 kd,.view none (.ints .i64 d) d.length 1 none,.int .i64 vs]] [] []=
  some ⟨.agg [.int .i64 k,.sl 0 0 a.length 1 none,.sl 1 0 b.length 1 none,.sl 2 0 c.length 1 none,.bool on,.int .i64 kd,.sl 3 0 (0+d.length) 1 none,.int .i64 vs],[.live (.ints .i64 a),.live (.ints .i64 b),.live (.bools c),.live (.ints .i64 ([]++d))],(decide (a.length≤274877906944)&&(decide (b.length≤274877906944)&&(decide (c.length≤274877906944)&&((decide (0+d.length≤274877906944))&&true)))),[]⟩:=by kernel_rfl
def wU:aM:=fun args h=>
 match args,h with
 |[.agg [.int .i64 k,.view _ (.ints .i64 a) n1 1 _,.view _ (.ints .i64 b) n2 1 _,.view _ (.bools c) n3 1 _,.bool on,.int .i64 kd,.view _ (.ints .i64 d) n4 1 _,.int .i64 vs]],[]=>
  some (.agg [.int .i64 k,.sl 0 0 a.length 1 none,.sl 1 0 b.length 1 none,.sl 2 0 c.length 1 none,.bool on,.int .i64 kd,.sl 3 0 d.length 1 none,.int .i64 vs],[.live (.ints .i64 a),.live (.ints .i64 b),.live (.bools c),.live (.ints .i64 d)],[decide (a.length≤274877906944),decide (b.length≤274877906944),decide (c.length≤274877906944),decide (d.length≤274877906944)])
 |_,_=>none
theorem m51:aS Tryz.prog 133 wU:=by
 intro args h res h' o hnorm he ho
 unfold wU at he
 split at he
 case h_2=>cases he
 rename_i k nl1 a n1 cap1 nl2 b n2 cap2 nl3 c n3 cap3 on kd nl4 d n4 cap4 vs
 simp only[Option.some.injEq,Prod.mk.injEq]at he
 obtain⟨rfl,rfl,rfl⟩:=he
 simp only[List.mem_cons,List.not_mem_nil,or_false,forall_eq_or_imp,forall_eq,decide_eq_true_eq]at ho
 obtain⟨o1,o2,o3,o4⟩:=ho
 simp only[b8,AV.norm,bA,aF.norm,Con.size,List.cons.injEq,AV.c.injEq,AV.agg.injEq,aF.view.injEq,aL,true_and,and_true]at hnorm
 obtain⟨⟨rfl,rfl,rfl⟩,⟨rfl,rfl,rfl⟩,⟨rfl,rfl,rfl⟩,rfl,rfl,rfl⟩:=hnorm
 have e:=a34 k a b c on kd d vs
 simp only[Nat.zero_add]at e
 exact mo t51 e (by simp[o1,o2,o3,o4])
theorem DI {v:List Bool} {n:Nat} (h:n<v.length):v.take (n+1)=v.take n++[v.getD n false]:=by
 rw[List.take_add_one,List.getD_eq_getElem?_getD,List.getElem?_eq_getElem h];rfl
def ofS (b:List Int) (c:List Bool) (x:Int) (i:Nat) (o:List Bool):List Bool:=o++[bif c.getD i false then b.getD i 0==x else false]
theorem MZ (b:List Int) (c:List Bool) (x:Int):bH (ofS b c x) c.length 0 []=bG b c x:=by
 have h:=aY (step:=ofS b c x) (fun i o=>o=(bG b c x).take i) c.length [] (by simp) fun i o hi h=>by
  subst h
  unfold ofS
  rw[DI (by rw[bV];exact hi),fT b c x i hi]
  congr 2
  cases c.getD i false<;>simp[bne]
 rw[h,←bV b c x,List.take_length]
theorem a5Q (k:Int) (a b:List Int) (c:List Bool) (x:Int) (hc:c.length≤274877906944) (hb:b.length=c.length):
  aN none Tryz.prog 0 (.block 0 (.loop (a5 0 (a0 jR)))) (uO k a b c x 0 [] 0) fun e t=>e=.normal∧t=LA c.length (bG b c x):=by
 have key:=aN.count (ro:=none) hT t51 bF (m:=0) (id:=0) (body:=a5 0 (a0 jR)) c.length (fun i o=>o.length=i) (fun i o=>uO k a b c x o.length o i) (fun o=>LA o.length o) (ofS b c x) (a6 jR 0) (a8 jR 0)
  (fun _ _=>[]) (fun _ _ _ _=>aK.nil) (fun i o hi h=>⟨by simp[ofS,h], ?_⟩) (fun o h=>⟨_,_,⟨_,_,RX k a b c x o.length o c.length,by simp,by simp⟩⟩) [] rfl
 ·rw[MZ,bV]at key;exact key
 ·unfold ofS
  rw[List.length_append]
  cases hq:c.getD i false with
  |true=>
   have e:=RV k a b c x o.length o i
   rw[aB (by omega) (by omega),Int.toNat_natCast,hq]at e
   refine⟨_,_,⟨_,_,e, ?_,by simp⟩⟩
   simp only[hq,bS,rpS]
   omega
  |false=>
   have e:=RW k a b c x o.length o i
   rw[aB (by omega) (by omega),Int.toNat_natCast]at e
   refine⟨_,_,⟨_,_,e, ?_,by simp⟩⟩
   simp only[hq,bS,rpS]
   omega
theorem UF (k:Int) (a b:List Int) (c:List Bool) (x:Int):aE tt (a9 T51) ([(0,⟨a6 jR 0,uO k a b c x 0 [] 0,.normal,LA c.length (bG b c x)⟩)]) 100 jR [.agg [.int .i64 k,.view none (.ints .i64 a) a.length 1 none,.view none (.ints .i64 b) b.length 1 none,.view none (.bools c) c.length 1 none],.c (.int .i64 x)] [] []=
  some ⟨.c (.sl 0 0 c.length 1 none),[.live (.bools (bG b c x))],true,[uO k a b c x 0 [] 0=uO k a b c x 0 [] 0]⟩:=by kernel_rfl
def H2:aM:=fun args h=>
 match args,h with
 |[.agg [.int .i64 k,.view _ (.ints .i64 a) n1 1 _,.view _ (.ints .i64 b) n2 1 _,.view _ (.bools c) n3 1 _],.c (.int .i64 x)],[]=>
  some (.c (.sl 0 0 c.length 1 none),[.live (.bools (bG b c x))],[decide (c.length≤274877906944),decide (b.length=c.length)])
 |_,_=>none
theorem a6R:aS Tryz.prog 159 H2:=by
 intro args h res h' o hnorm he ho
 unfold H2 at he
 split at he
 case h_2=>cases he
 rename_i k nl1 a n1 cap1 nl2 b n2 cap2 nl3 c n3 cap3 x
 simp only[Option.some.injEq,Prod.mk.injEq]at he
 obtain⟨rfl,rfl,rfl⟩:=he
 simp only[List.mem_cons,List.not_mem_nil,or_false,forall_eq_or_imp,forall_eq,decide_eq_true_eq]at ho
 obtain⟨o1,o2⟩:=ho
 simp only[b8,AV.norm,bA,aF.norm,Con.size,List.cons.injEq,AV.c.injEq,AV.agg.injEq,aF.view.injEq,aL,true_and,and_true]at hnorm
 obtain⟨⟨rfl,rfl,rfl⟩,⟨rfl,rfl,rfl⟩,rfl,rfl,rfl⟩:=hnorm
 exact mo (fn:=jR) t51 (UF k a b c x) (by simp) (hlc:=(fun cc hcc=>aK.cons (c:=cc) (by cases hcc;kernel_rfl) (by cases hcc;exact a5Q k a b c x o1 o2) aK.nil))
def mxS (b:List Int) (i:Nat) (n:Int):Int:=if b.getD i 0>n then b.getD i 0 else n
def mxL (b:List Int):Int:=bH (mxS b) b.length 0 0
theorem l58 (k:Int) (a b:List Int) (c:List Bool) (hb:b.length≤274877906944):
  aN none Tryz.prog 0 (.block 0 (.loop (a5 0 (a0 f58)))) (I58 k a b c 0 0) fun e t=>e=.normal∧t=X58 (mxL b):=by
 refine aN.count (ro:=none) hT t51 bF (m:=0) (id:=0) (body:=a5 0 (a0 f58)) b.length (fun _ _=>True) (fun i n=>I58 k a b c n i) X58 (mxS b) (a6 f58 0) (a8 f58 0)
  (fun _ _=>[]) (fun _ _ _ _=>aK.nil) (fun i n hi h=>⟨trivial, ?_⟩) (fun n h=>⟨_,_,⟨_,_,ZN k a b c n b.length,by simp,by simp⟩⟩) 0 trivial
 have e:=ZM k a b c n i
 rw[aB (by omega) (by omega),Int.toNat_natCast]at e
 refine⟨_,_,⟨_,_,e, ?_,by simp⟩⟩
 simp only[bS,rpS]
 omega
theorem a3C (k:Int) (a b:List Int) (c:List Bool):aE tt (a9 T51) ([(0,⟨a6 f58 0,I58 k a b c 0 0,.normal,X58 (mxL b)⟩)]) 100 f58 [.agg [.int .i64 k,.view none (.ints .i64 a) a.length 1 none,.view none (.ints .i64 b) b.length 1 none,.view none (.bools c) c.length 1 none]] [] []=
  some ⟨.c (.int .i64 (mxL b)),[],true,[I58 k a b c 0 0=I58 k a b c 0 0]⟩:=by kernel_rfl
def PQ:aM:=fun args h=>
 match args,h with
 |[.agg [.int .i64 k,.view _ (.ints .i64 a) n1 1 _,.view _ (.ints .i64 b) n2 1 _,.view _ (.bools c) n3 1 _]],[]=>
  some (.c (.int .i64 (mxL b)),[],[decide (b.length≤274877906944)])
 |_,_=>none
theorem m58:aS Tryz.prog 111 PQ:=by
 intro args h res h' o hnorm he ho
 unfold PQ at he
 split at he
 case h_2=>cases he
 rename_i k nl1 a n1 cap1 nl2 b n2 cap2 nl3 c n3 cap3
 simp only[Option.some.injEq,Prod.mk.injEq]at he
 obtain⟨rfl,rfl,rfl⟩:=he
 simp only[List.mem_cons,List.not_mem_nil,or_false,forall_eq_or_imp,forall_eq,decide_eq_true_eq]at ho
 have o1:=ho
 simp only[b8,AV.norm,bA,aF.norm,Con.size,List.cons.injEq,AV.c.injEq,AV.agg.injEq,aF.view.injEq,aL,true_and,and_true]at hnorm
 obtain⟨⟨rfl,rfl,rfl⟩,⟨rfl,rfl,rfl⟩,rfl,rfl,rfl⟩:=hnorm
 exact mo (fn:=f58) t51 (a3C k a b c) (by simp) (hlc:=(fun cc hcc=>aK.cons (c:=cc) (by cases hcc;kernel_rfl) (by cases hcc;exact l58 k a b c o1) aK.nil))
theorem HZ (v:List Int):cH (fun i=>fok (v.getD i 0)) v.length 0=aA v:=by
 rw[Bool.eq_iff_iff,cC]
 constructor
 ·intro h
  simp only[aA,List.all_eq_true]
  intro x hx
  obtain⟨i,hi⟩:=List.getElem?_of_mem hx
  have hlt:=(List.getElem?_eq_some_iff.1 hi).1
  have:=h i (by omega) (by omega)
  rw[List.getD_eq_getElem?_getD,hi]at this
  exact this
 ·intro h i _ _;exact aT h i
theorem l55 (v:List Int) (c:List Bool) (hv:v.length≤274877906944):
  aN none Tryz.prog 0 (.block 0 (.loop (a5 0 (a0 f55)))) (I55 v c 0) fun e t=>e=(bif aA v then .normal else .ret)∧t=bif aA v then X55 v c else Y55 v c:=by
 have key:=aN.all (ro:=none) hT t51 bF (m:=0) (id:=0) (body:=a5 0 (a0 f55)) v.length (fun i=>fok (v.getD i 0)) (fun i=>I55 v c i) (X55 v c) (Y55 v c) .ret (.inr rfl) (a6 f55 0) (a8 f55 0) (fun _=>[]) (fun _ _=>aK.nil) (fun i hi h=> ?_) (fun i hi h=> ?_)
  ⟨_,_,⟨_,_,ZA v c v.length,by simp,by simp⟩⟩
 ·rw[HZ]at key;exact key
 ·have e:=Z9 v c i
  rw[aB (by omega) (by omega),Int.toNat_natCast]at e
  refine⟨_,_,⟨_,_,e, ?_,by simp⟩⟩
  simp only[h,bS,rpS]
  omega
 ·have e:=Z8 v c i
  rw[Int.toNat_natCast]at e
  rw[if_neg (by intro h;cases h)]
  refine⟨_,_,⟨_,_,e, ?_,by simp⟩⟩
  simp only[h,bS,rpS]
  omega
theorem a35 (v:List Int) (c:List Bool):aE tt (a9 T51) ([(0,⟨a6 f55 0,I55 v c 0,.normal,X55 v c⟩)]) 100 f55 [.c (.view none (.ints .i64 v) v.length 1 none),.c (.view none (.bools c) c.length 1 none)] [] [(0,true)]=
  some ⟨.c (.bool (bif (↑v.length:Int)==8 then(↑c.length:Int)==8 else false)),[],(rp3 ((↑v.length:Int)==8) true),[I55 v c 0=I55 v c 0]⟩:=by kernel_rfl
theorem a36 (v:List Int) (c:List Bool):aE tt (a9 T51) ([(0,⟨a6 f55 0,I55 v c 0,.normal,X55 v c⟩)]) 100 f55 [.c (.view none (.ints .i64 v) v.length 1 none),.c (.view none (.bools c) c.length 1 none)] [] [(0,false)]=
  some ⟨.c (.bool false),[],(rp4 (!(↑v.length:Int)==8) true),[I55 v c 0=I55 v c 0]⟩:=by kernel_rfl
theorem W0 (v:List Int) (c:List Bool):aE tt (a9 T51) ([(0,⟨a6 f55 0,I55 v c 0,.ret,Y55 v c⟩)]) 100 f55 [.c (.view none (.ints .i64 v) v.length 1 none),.c (.view none (.bools c) c.length 1 none)] [] []=
  some ⟨.c (.bool false),[],true,[I55 v c 0=I55 v c 0]⟩:=by kernel_rfl
end
section
def c6 (v:List Int) (c:List Bool):Bool:=aA v&&(((v.length:Int)==8)&&((c.length:Int)==8))
def C8:aM:=fun args h=>
 match args,h with
 |[.c (.view _ (.ints .i64 v) n 1 _),.c (.view _ (.bools c) n2 1 _)],[]=>
  some (.c (.bool (c6 v c)),[],[decide (v.length≤274877906944)])
 |_,_=>none
theorem m55:aS Tryz.prog 108 C8:=by
 intro args h res h' o hnorm he ho
 unfold C8 at he
 split at he
 case h_2=>cases he
 rename_i nl v n cap nl2 c n2 cap2
 simp only[Option.some.injEq,Prod.mk.injEq]at he
 obtain⟨rfl,rfl,rfl⟩:=he
 simp only[List.mem_cons,List.not_mem_nil,or_false,forall_eq_or_imp,forall_eq,decide_eq_true_eq]at ho
 have o1:=ho
 simp only[b8,AV.norm,bA,aF.norm,Con.size,List.cons.injEq,AV.c.injEq,AV.agg.injEq,aF.view.injEq,aL,true_and,and_true]at hnorm
 obtain⟨⟨rfl,rfl,rfl⟩,rfl,rfl,rfl⟩:=hnorm
 have g:=l55 v c o1
 unfold c6
 cases hf:aA v with
 |false=>
  rw[hf]at g
  exact mo (fn:=f55) t51 (W0 v c) (by simp) (hlc:=(fun cc hcc=>aK.cons (c:=cc) (by cases hcc;kernel_rfl) (by cases hcc;exact g) aK.nil))
 |true=>
  rw[hf]at g
  cases hv:(v.length:Int)==8 with
  |true=>
   have e:=a35 v c
   rw[hv]at e
   exact mo (fn:=f55) t51 e rfl (hlc:=(fun cc hcc=>aK.cons (c:=cc) (by cases hcc;kernel_rfl) (by cases hcc;exact g) aK.nil))
  |false=>exact mo (fn:=f55) t51 (a36 v c) (by rw[hv];rfl) (hlc:=(fun cc hcc=>aK.cons (c:=cc) (by cases hcc;kernel_rfl) (by cases hcc;exact g) aK.nil))
def cbB (k:Int) (c:List Bool):Bool:=bet k 1 2&&(((c.length:Int)==8)&&c7 k (flg c))
def PL:aM:=fun args h=>
 match args,h with
 |[.c (.int .i64 k),.c (.view _ (.bools c) n 1 _)],[]=>
  some (.c (.bool (cbB k c)),[],[])
 |_,_=>none
theorem a6S:aS Tryz.prog 160 PL:=by
 intro args h res h' o hnorm he ho
 unfold PL at he
 split at he
 case h_2=>cases he
 rename_i k nl c n cap
 simp only[Option.some.injEq,Prod.mk.injEq]at he
 obtain⟨rfl,rfl,rfl⟩:=he
 simp only[b8,AV.norm,bA,aF.norm,Con.size,List.cons.injEq,AV.c.injEq,AV.agg.injEq,aF.view.injEq,aL,true_and,and_true]at hnorm
 obtain⟨rfl,rfl,rfl⟩:=hnorm
 unfold cbB
 cases h1:bet k 1 2 with
 |false=>exact mo t50 (UI k c) (by simp[h1])
 |true=>
  cases h2:(c.length:Int)==8 with
  |false=>exact mo t50 (UH k c) (by rw[h1,h2];rfl)
  |true=>
   have hc:c.length=8:=by simp only[beq_iff_eq]at h2;omega
   obtain⟨p1,p2,p3,p4⟩:=zI h1 hc
   have hl:(rwL k c).length≤8:=aY (step:=rwS k c) (fun i o=>o.length≤i) 8 [] (by simp) fun i o _ h=>by
    unfold rwS
    cases c.getD i false
    ·rw[cond_false];omega
    ·simp;omega
   have e:=UG k c
   rw[h1,h2]at e
   simp only[cond_true,p4]at e
   exact mo t50 e (by simp only[h1,hc,p1,decide_true,rpS,bS];omega)
noncomputable def T52:List aZ:=[⟨159,[],nm H2⟩,⟨111,[],nm PQ⟩,⟨108,[],nm C8⟩,⟨133,[],nm wU⟩,⟨160,[],nm PL⟩]++T51
theorem e52:a7 Tryz.prog T52:=by
 refine a7.append ?_ e51
 intro e he
 simp only[List.mem_cons,List.not_mem_nil,or_false]at he
 rcases he with rfl|rfl|rfl|rfl|rfl
 ·exact a6R.ok
 ·exact m58.ok
 ·exact m55.ok
 ·exact m51.ok
 ·exact a6S.ok
theorem t52:bK Tryz.prog (a9 T52):=aO e52
end
section
noncomputable abbrev f133:=Tryz.f204
noncomputable def qL (m:List (List Int)) (v:List Int) (n:Nat) (rows:List (List Int)) (i:Int):St:=
 aR f133.ntmps [(0,.c (.view none (.ivs .i64 m) m.length 1 none)),(1,.c (.view none (.ints .i64 v) v.length 1 none)),(6,.c (.sl 0 0 n 1 none)),(7,.c (.int .i64 i))] [.live (.ivs .i64 rows)]
noncomputable def EP (m:List (List Int)) (v:List Int) (n:Nat) (rows:List (List Int)):St:=
 aR f133.ntmps [(0,.c (.view none (.ivs .i64 m) m.length 1 none)),(1,.c (.view none (.ints .i64 v) v.length 1 none)),(6,.c (.sl 0 0 n 1 none))] [.live (.ivs .i64 rows)]
theorem SA (m:List (List Int)) (v:List Int) (n:Nat) (rows:List (List Int)) (i:Int):aC 0 (a6 f133 0) (a8 f133 0) (aD tt (a9 T52) ([]) 0 100 (a5 0 (a0 f133)) (qL m v n rows i) [(0,true)])=
  some (.normal,(decide (i<(↑m.length:Int))&&(decide ((↑m.length:Int)≤(↑m.length:Int))&&(decide ((↑m.length:Int)≤274877906944)&&(decide (0≤i)&&(decide (i<(↑(↑m.length:Int).toNat:Int))&&(decide (i.toNat<(List.replicate m.length (0:Int)).length)&&(decide (0≤i)&&(decide (i<(↑m.length:Int))&&(decide (i.toNat<m.length)&&(decide (0+(m.getD i.toNat []).length≤274877906944)&&(decide ((↑m.length:Int).toNat=((List.replicate m.length (0:Int)).set i.toNat 1).length)&&(decide (0+(m.getD i.toNat []).length=([]++m.getD i.toNat []).length)&&(decide (0+(m.getD i.toNat []).length+(↑m.length:Int).toNat≤274877906944)&&(decide (0+(m.getD i.toNat []).length+(↑m.length:Int).toNat=([]++m.getD i.toNat []++(List.replicate m.length (0:Int)).set i.toNat 1).length)&&(decide (n=rows.length)&&((decide (n+1≤274877906944))&&true)))))))))))))))),[],qL m v (n+1) (rows++[[]++m.getD i.toNat []++(List.replicate m.length (0:Int)).set i.toNat 1]) (IntKind.i64.wrap (i+1))):=by kernel_rfl
theorem SB (m:List (List Int)) (v:List Int) (n:Nat) (rows:List (List Int)) (i:Int):aC 0 (a6 f133 0) (a8 f133 0) (aD tt (a9 T52) ([]) 0 100 (a5 0 (a0 f133)) (qL m v n rows i) [(0,false)])=
  some (.exit 0,((!decide (i<(↑m.length:Int)))&&true),[],EP m v (n) (rows)):=by kernel_rfl
noncomputable def BF (n r:Nat) (rows:List (List Int)) (rest:List Int) (at':Int):St:=
 aR f133.ntmps [(6,.c (.sl 0 0 n 1 none)),(9,.c (.view none (.ints .i64 rest) r 1 none)),(10,.c (.int .i64 at'))] [.live (.ivs .i64 rows)]
noncomputable def rO (n r:Nat) (rows:List (List Int)) (rest:List Int) (at' i:Int):St:=
 aR f133.ntmps [(6,.c (.sl 0 0 n 1 none)),(9,.c (.view none (.ints .i64 rest) r 1 none)),(10,.c (.int .i64 at')),(11,.c (.int .i64 i))] [.live (.ivs .i64 rows)]
noncomputable def o9 (n r:Nat) (rows:List (List Int)) (rest:List Int) (at' i k:Int):St:=
 aR f133.ntmps [(6,.c (.sl 0 0 n 1 none)),(9,.c (.view none (.ints .i64 rest) r 1 none)),(10,.c (.int .i64 at')),(11,.c (.int .i64 i)),(12,.c (.int .i64 k))] [.live (.ivs .i64 rows)]
noncomputable def z7 (n r:Nat) (rows:List (List Int)) (rest:List Int) (at' i:Int):St:=rO n r rows rest at' i
noncomputable def s7 (n r:Nat) (rows:List (List Int)) (rest:List Int) (at':Int):St:=BF n r rows rest at'
noncomputable def s6 (r:Nat) (rest:List Int):St:=
 aR f133.ntmps [(9,.c (.view none (.ints .i64 rest) r 1 none))] []
theorem RJ (n r:Nat) (rows:List (List Int)) (rest:List Int) (at' i k:Int):aC 0 (a6 f133 6) (a8 f133 6) (aD tt (a9 T52) ([]) 0 100 (a5 6 (a0 f133)) (o9 n r rows rest at' i k) [(0,true),(0,true),(0,true)])=
  some (.normal,(decide (k<(↑n:Int))&&(rp3 (k !=i) (decide (0≤k)&&(decide (k<(↑n:Int))&&((k !=i)&&(decide (k.toNat<rows.length)&&(rp2 (k !=i) (decide (0≤at')&&(decide (at'<(↑(rows.getD k.toNat []).length:Int))&&((k !=i)&&(decide (at'.toNat<(rows.getD k.toNat []).length)&&((k !=i)&&((bif k !=i then(rows.getD k.toNat []).getD at'.toNat 0 !=0 else false)&&(decide (0≤k)&&(decide (k<(↑n:Int))&&(decide (k.toNat<rows.length)&&(decide (0≤i)&&(decide (i<(↑n:Int))&&(decide (i.toNat<rows.length)&&(decide ((rows.getD k.toNat []).length≤274877906944)&&(decide ((rows.getD k.toNat []).length=(rows.getD i.toNat []).length)&&(aA (rows.getD k.toNat [])&&(aA (rows.getD i.toNat [])&&(decide (0≤aV (rows.getD i.toNat []))&&(decide (0≤k)&&(decide (k<(↑n:Int))&&((decide (k.toNat<rows.length))&&true))))))))))))))))))))))))))),[],o9 (n) (r) (rows.set k.toNat (nlL (rows.getD k.toNat []) (rows.getD i.toNat []))) (rest) at' i (IntKind.i64.wrap (k+1))):=by kernel_rfl
theorem RK (n r:Nat) (rows:List (List Int)) (rest:List Int) (at' i k:Int):aC 0 (a6 f133 6) (a8 f133 6) (aD tt (a9 T52) ([]) 0 100 (a5 6 (a0 f133)) (o9 n r rows rest at' i k) [(0,true),(0,true),(0,false)])=
  some (.normal,(decide (k<(↑n:Int))&&(rp3 (k !=i) (decide (0≤k)&&(decide (k<(↑n:Int))&&((k !=i)&&(decide (k.toNat<rows.length)&&(rp2 (k !=i) (decide (0≤at')&&(decide (at'<(↑(rows.getD k.toNat []).length:Int))&&((k !=i)&&(decide (at'.toNat<(rows.getD k.toNat []).length)&&((k !=i)&&((!bif k !=i then(rows.getD k.toNat []).getD at'.toNat 0 !=0 else false)&&true))))))))))))),[],o9 (n) (r) (rows) (rest) at' i (IntKind.i64.wrap (k+1))):=by kernel_rfl
theorem RL (n r:Nat) (rows:List (List Int)) (rest:List Int) (at' i k:Int):aC 0 (a6 f133 6) (a8 f133 6) (aD tt (a9 T52) ([]) 0 100 (a5 6 (a0 f133)) (o9 n r rows rest at' i k) [(0,true),(0,false)])=
  some (.normal,(decide (k<(↑n:Int))&&(rp9 (!k !=i) true)),[],o9 (n) (r) (rows) (rest) at' i (IntKind.i64.wrap (k+1))):=by kernel_rfl
theorem RM (n r:Nat) (rows:List (List Int)) (rest:List Int) (at' i k:Int):aC 0 (a6 f133 6) (a8 f133 6) (aD tt (a9 T52) ([]) 0 100 (a5 6 (a0 f133)) (o9 n r rows rest at' i k) [(0,false)])=
  some (.exit 6,((!decide (k<(↑n:Int)))&&true),[],z7 (n) (r) (rows) (rest) at' i):=by kernel_rfl
def byS (at' i:Nat) (k:Nat) (rows:List (List Int)):List (List Int):=
 bif ((k:Int)!=(i:Int))&&((rows.getD k []).getD at' 0 !=0)then rows.set k (nlL (rows.getD k []) (rows.getD i []))else rows
def byK (at' i:Nat) (rows:List (List Int)):List (List Int):=bH (byS at' i) rows.length 0 rows
def bU (L:Nat) (rows:List (List Int)):Bool:=rows.all fun r=>decide (r.length=L)&&aA r
theorem RB (n r:Nat) (rows rows1:List (List Int)) (rest:List Int) (at' i:Int):aC 0 (a6 f133 4) (a8 f133 4) (aD tt (a9 T52) ([(6,⟨a6 f133 6,o9 n r rows rest at' i 0,.normal,z7 n r rows1 rest at' i⟩)]) 0 100 (a5 4 (a0 f133)) (rO n r rows rest at' i) [(0,true),(0,true)])=
  some (.exit 4,(decide (i<(↑n:Int))&&(decide (0≤i)&&(decide (i<(↑n:Int))&&(decide (i.toNat<rows.length)&&(decide ((rows.getD i.toNat []).length≤274877906944)&&((aV (rows.getD i.toNat [])==at')&&(decide (0≤i)&&(decide (i<(↑n:Int))&&(decide (i.toNat<rows1.length)&&(decide (rest.length≤274877906944)&&(decide (rest.length=(rows1.getD i.toNat []).length)&&(aA rest&&(aA (rows1.getD i.toNat [])&&((decide (0≤aV (rows1.getD i.toNat [])))&&true)))))))))))))),[o9 n r rows rest at' i 0=o9 n r rows rest at' i 0],s7 (n) (rest.length) (rows1) (nlL rest (rows1.getD i.toNat [])) at'):=by kernel_rfl
theorem MK (n r:Nat) (rows:List (List Int)) (rest:List Int) (at' i:Int):aC 0 (a6 f133 4) (a8 f133 4) (aD tt (a9 T52) ([]) 0 100 (a5 4 (a0 f133)) (rO n r rows rest at' i) [(0,true),(0,false)])=
  some (.normal,(decide (i<(↑n:Int))&&(decide (0≤i)&&(decide (i<(↑n:Int))&&(decide (i.toNat<rows.length)&&(decide ((rows.getD i.toNat []).length≤274877906944)&&((!aV (rows.getD i.toNat [])==at')&&true)))))),[],rO (n) (r) (rows) (rest) at' (IntKind.i64.wrap (i+1))):=by kernel_rfl
theorem ML (n r:Nat) (rows:List (List Int)) (rest:List Int) (at' i:Int):aC 0 (a6 f133 4) (a8 f133 4) (aD tt (a9 T52) ([]) 0 100 (a5 4 (a0 f133)) (rO n r rows rest at' i) [(0,false)])=
  some (.exit 4,((!decide (i<(↑n:Int)))&&true),[],s7 (n) (r) (rows) (rest) at'):=by kernel_rfl
theorem QH (n r:Nat) (rows rows1:List (List Int)) (rest rest1:List Int) (at':Int):aC 0 (a6 f133 2) (a8 f133 2) (aD tt (a9 T52) ([(4,⟨a6 f133 4,rO n r rows rest at' 0,.normal,s7 n r rows1 rest1 at'⟩)]) 0 100 (a5 2 (a0 f133)) (BF n r rows rest at') [(0,true)])=
  some (.normal,((decide (at'<4))&&true),[rO n r rows rest at' 0=rO n r rows rest at' 0],BF (n) (r) (rows1) (rest1) (IntKind.i64.wrap (at'+1))):=by kernel_rfl
theorem QI (n r:Nat) (rows rows1:List (List Int)) (rest rest1:List Int) (at':Int) (lcv:List (Nat×LC)):aC 0 (a6 f133 2) (a8 f133 2) (aD tt (a9 T52) (lcv) 0 100 (a5 2 (a0 f133)) (BF n r rows rest at') [(0,false)])=
  some (.exit 2,((!decide (at'<4))&&true),[],s6 (r) (rest)):=by kernel_rfl
end
section
theorem fK {L:Nat} {rows:List (List Int)} (h:bU L rows=true) {i:Nat} (hi:i<rows.length):(rows.getD i []).length=L∧aA (rows.getD i [])=true:=by
 rw[List.getD_eq_getElem?_getD,List.getElem?_eq_getElem hi]
 have:=List.all_eq_true.1 h _ (List.getElem_mem hi)
 simpa only[Bool.and_eq_true,decide_eq_true_eq,Option.getD_some]using this
theorem DC {L:Nat} {rows:List (List Int)} (h:bU L rows=true) {i:Nat} {v:List Int} (h1:v.length=L) (h2:aA v=true):bU L (rows.set i v)=true:=by
 unfold bU at h⊢
 rw[List.all_eq_true]at h⊢
 intro y hy
 rcases List.mem_or_eq_of_mem_set hy with h'|h'
 ·exact h y h'
 ·subst h';simp[h1,h2]
theorem mH {L:Nat} {rows:List (List Int)} (h:bU L rows=true) {v:List Int} (h1:v.length=L) (h2:aA v=true):bU L (rows++[v])=true:=by
 unfold bU at h⊢
 simp[List.all_append,h,h1,h2]
def B9 (n i:Nat):List Int:=(List.replicate n (0:Int)).set i 1
theorem GA (n i:Nat):(B9 n i).length=n:=by simp[B9]
theorem m5 (n:Nat):aA (List.replicate n (0:Int))=true:=by
 simp only[aA,List.all_eq_true]
 intro x hx
 rw[(List.mem_replicate.1 hx).2];rfl
theorem G9 (n i:Nat):aA (B9 n i)=true:=dD (m5 n) rfl
def bwS (m:List (List Int)) (i:Nat) (o:List (List Int)):List (List Int):=o++[m.getD i []++B9 m.length i]
def bwL (m:List (List Int)):List (List Int):=bH (bwS m) m.length 0 []
theorem xP {m:List (List Int)} (hm:bU 4 m=true):(bwL m).length=m.length∧bU (4+m.length) (bwL m)=true:=
 aY (step:=bwS m) (fun i o=>o.length=i∧bU (4+m.length) o=true) m.length [] ⟨rfl,rfl⟩ fun i o hi h=>by
  obtain⟨g1,g2⟩:=fK hm hi
  exact⟨by simp[bwS,h.1],mH h.2 (by rw[List.length_append,g1,GA]) (eB g2 (G9 _ _))⟩
theorem a5W (m:List (List Int)) (v:List Int) (hn:m.length≤1000) (hm:bU 4 m=true):
  aN none Tryz.prog 0 (.block 0 (.loop (a5 0 (a0 f133)))) (qL m v 0 [] 0) fun e t=>e=.normal∧t=EP m v m.length (bwL m):=by
 have key:=aN.count (ro:=none) hT t52 bF (m:=0) (id:=0) (body:=a5 0 (a0 f133)) m.length (fun i o=>o.length=i) (fun i o=>qL m v o.length o i) (fun o=>EP m v o.length o) (bwS m) (a6 f133 0) (a8 f133 0)
  (fun _ _=>[]) (fun _ _ _ _=>aK.nil) (fun i o hi h=>⟨by simp[bwS,h], ?_⟩) (fun o h=>⟨_,_,⟨_,_,SB m v o.length o m.length,by simp,by simp⟩⟩) [] rfl
 ·have hb:=(xP hm).1
  unfold bwL at hb
  rw[hb]at key;exact key
 ·obtain⟨g1,g2⟩:=fK hm hi
  have e:=SA m v o.length o i
  rw[aB (by omega) (by omega),Int.toNat_natCast]at e
  unfold bwS
  rw[List.length_append,B9]
  refine⟨_,_,⟨_,_,e, ?_,by simp⟩⟩
  simp only[List.nil_append,List.length_append,List.length_set,List.length_replicate,Int.toNat_natCast,g1,bS,rpS]
  omega
theorem E0 {L n at' i k:Nat} {rows:List (List Int)} (h:rows.length=n∧bU L rows=true) (hk:k<n):(byS at' i k rows).length=n∧bU L (byS at' i k rows)=true:=by
 unfold byS
 cases ((k:Int)!=(i:Int))&&((rows.getD k []).getD at' 0 !=0)
 ·exact h
 ·rw[cond_true]
  obtain⟨g1,g2⟩:=fK h.2 (i:=k) (by omega)
  exact⟨by rw[List.length_set];exact h.1,DC h.2 (by rw[kY];exact g1) (rC _ _)⟩
theorem J4 {at' i k:Nat} {rows:List (List Int)}:(byS at' i k rows).getD i []=rows.getD i []:=by
 unfold byS
 cases h:((k:Int)!=(i:Int))&&((rows.getD k []).getD at' 0 !=0)
 ·rfl
 ·rw[Bool.and_eq_true]at h
  have hne:k≠i:=by
   intro e;subst e;simp at h
  rw[cond_true,List.getD_eq_getElem?_getD,List.getElem?_set_ne hne,←List.getD_eq_getElem?_getD]
theorem DZ {L at' i:Nat} {rows:List (List Int)} (h:bU L rows=true):(byK at' i rows).length=rows.length∧bU L (byK at' i rows)=true∧(byK at' i rows).getD i []=rows.getD i []:=by
 have:=aY (step:=byS at' i) (fun _ o=>(o.length=rows.length∧bU L o=true)∧o.getD i []=rows.getD i []) rows.length rows ⟨⟨rfl,h⟩,rfl⟩ fun k o hk h=>⟨E0 h.1 hk,by rw[J4];exact h.2⟩
 exact⟨this.1.1,this.1.2,this.2⟩
theorem YH (n r:Nat) (rows:List (List Int)) (rest:List Int) (at' i L:Nat) (hL:L≤2000) (ha:at'<L) (hn:n≤1000) (hr:rows.length=n) (ho:bU L rows=true) (hi:i<n) (h0:aV (rows.getD i [])=(at':Int)):
  aN none Tryz.prog 0 (.block 6 (.loop (a5 6 (a0 f133)))) (o9 n r rows rest at' i 0) fun e t=>e=.normal∧t=z7 n r (byK at' i rows) rest at' i:=by
 have key:=aN.count (ro:=none) hT t52 bF (m:=0) (id:=6) (body:=a5 6 (a0 f133)) n (fun _ o=>(o.length=n∧bU L o=true)∧o.getD i []=rows.getD i []) (fun k o=>o9 n r o rest at' i k) (fun o=>z7 n r o rest at' i) (byS at' i) (a6 f133 6) (a8 f133 6)
  (fun _ _=>[]) (fun _ _ _ _=>aK.nil) (fun k o hk h=>⟨⟨E0 h.1 hk,by rw[J4];exact h.2⟩, ?_⟩) (fun o h=>⟨_,_,⟨_,_,RM n r o rest at' i n,by simp,by simp⟩⟩) rows ⟨⟨hr,ho⟩,rfl⟩
 ·unfold byK;rw[hr];exact key
 ·obtain⟨⟨h1,h2⟩,h3⟩:=h
  obtain⟨g1,g2⟩:=fK h2 (i:=k) (by omega)
  obtain⟨g3,g4⟩:=fK h2 (i:=i) (by omega)
  have g5:0≤aV (o.getD i []):=by rw[h3,h0];omega
  unfold byS
  cases c1:((k:Int)!=(i:Int))with
  |false=>
   have e:=RL n r o rest at' i k
   rw[aB (by omega) (by omega)]at e
   refine⟨_,_,⟨_,_,e, ?_,by simp⟩⟩
   simp only[c1,bS,rpS]
   omega
  |true=>
   cases c2:((o.getD k []).getD at' 0 !=0)with
   |false=>
    have e:=RK n r o rest at' i k
    rw[aB (by omega) (by omega),Int.toNat_natCast,Int.toNat_natCast]at e
    refine⟨_,_,⟨_,_,e, ?_,by simp⟩⟩
    simp only[c1,c2,g1,bS,rpS]
    omega
   |true=>
    have e:=RJ n r o rest at' i k
    rw[aB (by omega) (by omega),Int.toNat_natCast,Int.toNat_natCast,Int.toNat_natCast]at e
    refine⟨_,_,⟨_,_,e, ?_,by simp⟩⟩
    simp only[c1,c2,g1,g2,g3,g4,g5,bS,rpS]
    omega
def byF (rows:List (List Int)) (at':Nat) (i:Nat) (_:Unit):Unit⊕Nat:=bif aV (rows.getD i [])==(at':Int)then .inr i else .inl ()
def byT (at':Nat) (s:List (List Int)×List Int):List (List Int)×List Int:=match cD (byF s.1 at') s.1.length 0 ()with
 |.inl _=>s
 |.inr i=>(byK at' i s.1,nlL s.2 ((byK at' i s.1).getD i []))
theorem r6 {L n at':Nat} {s:List (List Int)×List Int} (h:(s.1.length=n∧bU L s.1=true)∧s.2.length=L∧aA s.2=true):((byT at' s).1.length=n∧bU L (byT at' s).1=true)∧(byT at' s).2.length=L∧aA (byT at' s).2=true:=by
 unfold byT
 split
 ·exact h
 ·obtain⟨q1,q2,q3⟩:=DZ (at':=at') (i:= ‹Nat›) h.1.2
  exact⟨⟨by rw[q1];exact h.1.1,q2⟩,by rw[kY];exact h.2.1,rC _ _⟩
theorem M6:a5 6 (a5 4 (a0 f133))=a5 6 (a0 f133):=by kernel_rfl
theorem M5:a5 4 (a5 2 (a0 f133))=a5 4 (a0 f133):=by kernel_rfl
theorem YC (n r:Nat) (rows:List (List Int)) (rest:List Int) (at' L:Nat) (hL:L≤2000) (ha:at'<L) (hn:n≤1000) (hr:rows.length=n) (ho:bU L rows=true) (hrr:r=rest.length) (h1:rest.length=L) (h2:aA rest=true):
  aN none Tryz.prog 0 (.block 4 (.loop (a5 4 (a0 f133)))) (rO n r rows rest at' 0) fun e t=>e=.normal∧t=s7 n (byT at' (rows,rest)).2.length (byT at' (rows,rest)).1 (byT at' (rows,rest)).2 at':=by
 subst hrr
 have key:=aN.countE (ro:=none) hT t52 bF (m:=0) (id:=4) (body:=a5 4 (a0 f133)) (β:=Unit) (γ:=Nat) n (fun _ _=>True) (fun i _=>rO n rest.length rows rest at' i) (fun _=>s7 n rest.length rows rest at')
  (fun i=>s7 n rest.length (byK at' i rows) (nlL rest ((byK at' i rows).getD i [])) at') .normal (.inl rfl) (byF rows at') (a6 f133 4) (a8 f133 4)
  (fun i _=>bif aV (rows.getD i [])==(at':Int)then [(6,⟨a6 f133 6,o9 n rest.length rows rest at' i 0,.normal,z7 n rest.length (byK at' i rows) rest at' i⟩)]else [])
  (fun i _ hi _=> ?_) (fun i _ hi _=> ?_) (fun _ _=>⟨_,_,⟨_,_,ML n rest.length rows rest at' n,by simp,by simp⟩⟩) () trivial
 ·refine aN.mono key fun e t h=> ?_
  unfold byT
  dsimp only
  rw[hr]
  revert h
  cases cD (byF rows at') n 0 ()with
  |inl x=>exact fun h=>h
  |inr i=>exact fun h=>by dsimp only at h⊢;rw[kY];exact h
 ·cases c1:aV (rows.getD i [])==(at':Int)with
  |false=>exact aK.nil
  |true=>exact aK.cons (by kernel_rfl) (by rw[M6];exact YH n rest.length rows rest at' i L hL ha hn hr ho hi (by simpa using c1)) aK.nil
 ·obtain⟨g1,g2⟩:=fK ho (i:=i) (by omega)
  cases c1:aV (rows.getD i [])==(at':Int)with
  |true=>
   obtain⟨q1,q2,q3⟩:=DZ (at':=at') (i:=i) ho
   refine .inr ⟨i,by unfold byF;rw[c1];rfl, ?_⟩
   rw[cond_true,if_pos rfl]
   have e:=RB n rest.length rows (byK at' i rows) rest at' i
   rw[Int.toNat_natCast,q3]at e
   rw[q3]
   refine⟨_,_,⟨_,_,e, ?_,by simp⟩⟩
   have c2:aV (rows.getD i [])=(at':Int):=by simpa using c1
   simp only[g1,g2,h1,h2,q1,c2,beq_self_eq_true,bS,rpS]
   omega
  |false=>
   refine .inl ⟨(),by unfold byF;rw[c1];rfl,trivial, ?_⟩
   rw[cond_false]
   have e:=MK n rest.length rows rest at' i
   rw[aB (by omega) (by omega),Int.toNat_natCast]at e
   refine⟨_,_,⟨_,_,e, ?_,by simp⟩⟩
   simp only[c1,g1,bS,rpS]
   omega
def byE (m:List (List Int)) (v:List Int):List (List Int)×List Int:=bH byT 4 0 (bwL m,v++List.replicate m.length 0)
theorem DY {m:List (List Int)} {v:List Int} (hm:bU 4 m=true) (h1:v.length=4) (h2:aA v=true):((byE m v).1.length=m.length∧bU (4+m.length) (byE m v).1=true)∧(byE m v).2.length=4+m.length∧aA (byE m v).2=true:=
 aY (step:=byT) (fun _ s=>(s.1.length=m.length∧bU (4+m.length) s.1=true)∧s.2.length=4+m.length∧aA s.2=true) 4 (bwL m,v++List.replicate m.length 0)
  ⟨xP hm,by simp[h1],eB h2 (m5 _)⟩ fun i s _ h=>r6 h
theorem YA (m:List (List Int)) (v:List Int) (hn:m.length≤1000) (hm:bU 4 m=true) (h1:v.length=4) (h2:aA v=true):
  aN none Tryz.prog 0 (.block 2 (.loop (a5 2 (a0 f133)))) (BF m.length (v++List.replicate m.length 0).length (bwL m) (v++List.replicate m.length 0) 0) fun e t=>e=.normal∧t=s6 (byE m v).2.length (byE m v).2:=by
 have i0:((bwL m).length=m.length∧bU (4+m.length) (bwL m)=true)∧(v++List.replicate m.length 0).length=4+m.length∧aA (v++List.replicate m.length 0)=true:=⟨xP hm,by simp[h1],eB h2 (m5 _)⟩
 refine aN.count (ro:=none) hT t52 bF (m:=0) (id:=2) (body:=a5 2 (a0 f133)) 4 (fun _ s=>(s.1.length=m.length∧bU (4+m.length) s.1=true)∧s.2.length=4+m.length∧aA s.2=true) (fun i s=>BF m.length s.2.length s.1 s.2 i) (fun s=>s6 s.2.length s.2) byT (a6 f133 2) (a8 f133 2)
  (fun i s=>[(4,⟨a6 f133 4,rO m.length s.2.length s.1 s.2 i 0,.normal,s7 m.length s.2.length (byT i s).1 (byT i s).2 i⟩)])
  (fun i s hi h=>aK.cons (by kernel_rfl) (by rw[M5];have:=YC m.length s.2.length s.1 s.2 i (4+m.length) (by omega) (by omega) hn h.1.1 h.1.2 rfl h.2.1 h.2.2;rw[(r6 (at':=i) h).2.1,←h.2.1]at this;exact this) aK.nil)
  (fun i s hi h=>⟨r6 h, ?_⟩) (fun s h=>⟨_,_,⟨_,_,QI m.length s.2.length s.1 s.1 s.2 s.2 (4:Nat) [],by simp,by simp⟩⟩) (bwL m,v++List.replicate m.length 0) i0
 have e:=QH m.length s.2.length s.1 (byT i s).1 s.2 (byT i s).2 i
 rw[aB (by omega) (by omega)]at e
 rw[(r6 (at':=i) h).2.1,←h.2.1]
 refine⟨_,_,⟨_,_,e, ?_,by simp⟩⟩
 simp only[bS,rpS]
 omega
noncomputable def s0 (n r:Nat) (rows:List (List Int)) (rest:List Int):St:=
 aR f133.ntmps [(6,.c (.sl 0 0 n 1 none)),(9,.c (.sl 1 0 r 1 none)),(10,.c (.int .i64 0))] [.live (.ivs .i64 rows),.live (.ints .i64 rest)]
theorem YE (m:List (List Int)) (v:List Int) (hn:m.length≤1000) (hm:bU 4 m=true) (h1:v.length=4) (h2:aA v=true):
  aN none Tryz.prog 0 (.block 2 (.loop (a5 2 (a0 f133)))) (s0 m.length (0+v.length+m.length) (bwL m) (v++List.replicate m.length 0)) fun e t=>e=.normal∧t=s6 (byE m v).2.length (byE m v).2:=by
 have hl:0+v.length+m.length=(v++List.replicate m.length (0:Int)).length:=by simp
 rw[hl]
 have g:=YA m v hn hm h1 h2
 revert g
 generalize (v++List.replicate m.length (0:Int))=rest
 intro g
 have e:fit 0 (a6 f133 2) ⟨(s0 m.length rest.length (bwL m) rest).tmps.set 9 (.c (.view none (.ints .i64 rest) rest.length 1 none)),(s0 m.length rest.length (bwL m) rest).heap.set 1 .dead⟩=BF m.length rest.length (bwL m) rest 0:=by kernel_rfl
 have w:=(f8.froz 0 9 1 (s:=s0 m.length rest.length (bwL m) rest) (len:=rest.length) (es:=1) (cap:=none) (c:=.ints .i64 rest) rfl rfl rfl (Nat.mul_one _)).trans (f8.fit 0 (a6 f133 2) _)
 rw[e]at w
 exact g.pre w
def byB (m:List (List Int)) (v:List Int):Bool:= !bet (aV (byE m v).2) 0 3
def byD (m:List (List Int)) (v:List Int):List Int:=bif bet (aV (byE m v).2) 0 3 then []else dW ((byE m v).2.drop 4) 30
noncomputable def L8:List aZ:=[⟨241,[],qX⟩]++T52
theorem a5N:a7 Tryz.prog L8:=by
 refine a7.append ?_ e52
 intro e he
 simp only[List.mem_cons,List.not_mem_nil,or_false]at he
 subst he;exact RQ t5
theorem a1S:bK Tryz.prog (a9 L8):=aO a5N
theorem UY (m rows:List (List Int)) (v rest:List Int):aE tt (a9 L8) ([(0,⟨a6 f133 0,qL m v 0 [] 0,.normal,EP m v m.length rows⟩),(2,⟨a6 f133 2,s0 m.length (0+v.length+m.length) rows (v++List.replicate m.length (0:Int)),.normal,s6 rest.length rest⟩)]) 100 f133 [.c (.view none (.ivs .i64 m) m.length 1 none),.c (.view none (.ints .i64 v) v.length 1 none)] [] [(0,true)]=
  some ⟨.tup [.c (.sl 0 0 0 1 none),.c (.bool false)],[.live (.ints .i64 [])],(decide (0+v.length≤274877906944)&&(decide (0+v.length=([]++v).length)&&(decide ((↑(0+v.length):Int)+(↑m.length:Int)≤274877906944)&&(decide (rest.length≤274877906944)&&((bet (aV rest) 0 3)&&true))))),[qL m v 0 [] 0=qL m v 0 [] 0,s0 m.length (0+v.length+m.length) rows (v++List.replicate m.length (0:Int))=s0 m.length (0+v.length+m.length) rows (v++List.replicate m.length (0:Int))]⟩:=by kernel_rfl
theorem UZ (m rows:List (List Int)) (v rest:List Int):aE tt (a9 L8) ([(0,⟨a6 f133 0,qL m v 0 [] 0,.normal,EP m v m.length rows⟩),(2,⟨a6 f133 2,s0 m.length (0+v.length+m.length) rows (v++List.replicate m.length (0:Int)),.normal,s6 rest.length rest⟩)]) 100 f133 [.c (.view none (.ivs .i64 m) m.length 1 none),.c (.view none (.ints .i64 v) v.length 1 none)] [] [(0,false)]=
  some ⟨.tup [.c (.sl 0 0 (List.drop 4 rest).length 1 none),.c (.bool true)],[.live (.ints .i64 (dW (List.drop 4 rest) 30))],(decide (0+v.length≤274877906944)&&(decide (0+v.length=([]++v).length)&&(decide ((↑(0+v.length):Int)+(↑m.length:Int)≤274877906944)&&(decide (rest.length≤274877906944)&&(!bet (aV rest) 0 3&&(decide (4≤(↑rest.length:Int))&&(decide ((List.drop 4 rest).length≤274877906944)&&((aA (List.drop 4 rest))&&true)))))))),[qL m v 0 [] 0=qL m v 0 [] 0,s0 m.length (0+v.length+m.length) rows (v++List.replicate m.length (0:Int))=s0 m.length (0+v.length+m.length) rows (v++List.replicate m.length (0:Int))]⟩:=by kernel_rfl
def PJ:aM:=fun args h=>
 match args,h with
 |[.c (.view _ (.ivs .i64 m) n 1 _),.c (.view _ (.ints .i64 v) n2 1 _)],[]=>
  some (.tup [.c (.sl 0 0 (byD m v).length 1 none),.c (.bool (byB m v))],[.live (.ints .i64 (byD m v))],[decide (m.length≤1000),bU 4 m,decide (v.length=4),aA v])
 |_,_=>none
theorem zA {v:List Int} (h:aA v=true) (n:Nat):aA (v.drop n)=true:=by
 simp only[aA,List.all_eq_true]at h⊢
 exact fun x hx=>h x (List.mem_of_mem_drop hx)
theorem a7C:aS Tryz.prog 204 PJ:=by
 intro args h res h' o hnorm he ho
 unfold PJ at he
 split at he
 case h_2=>cases he
 rename_i nl m n cap nl2 v n2 cap2
 simp only[Option.some.injEq,Prod.mk.injEq]at he
 obtain⟨rfl,rfl,rfl⟩:=he
 simp only[List.mem_cons,List.not_mem_nil,or_false,forall_eq_or_imp,forall_eq,decide_eq_true_eq]at ho
 obtain⟨o1,o2,o3,o4⟩:=ho
 simp only[b8,AV.norm,bA,aF.norm,Con.size,List.cons.injEq,AV.c.injEq,AV.agg.injEq,aF.view.injEq,aL,true_and,and_true]at hnorm
 obtain⟨⟨rfl,rfl,rfl⟩,rfl,rfl,rfl⟩:=hnorm
 obtain⟨-,q1,q2⟩:=DY o2 o3 o4
 have lo: ∀cc,(a0 f133)=cc→aK none Tryz.prog 0 [(0,⟨a6 f133 0,qL m v 0 [] 0,.normal,EP m v m.length (bwL m)⟩),(2,⟨a6 f133 2,s0 m.length (0+v.length+m.length) (bwL m) (v++List.replicate m.length (0:Int)),.normal,s6 (byE m v).2.length (byE m v).2⟩)] cc:=fun cc h=>by
  subst h
  exact aK.cons (by kernel_rfl) (a5W m v o1 o2) (aK.cons (by kernel_rfl) (YE m v o1 o2 o3 o4) aK.nil)
 unfold byB byD
 cases hb:bet (aV (byE m v).2) 0 3 with
 |true=>
  exact mo (f:=204) (fn:=f133) a1S (UY m (bwL m) v (byE m v).2) (by
   simp only[hb,q1,o3,List.nil_append,bS,rpS];omega) (hlc:=(fun cc hcc=>lo cc (by cases hcc;rfl)))
 |false=>
  rw[cond_false,fM]
  exact mo (f:=204) (fn:=f133) a1S (UZ m (bwL m) v (byE m v).2) (by
   simp only[hb,q1,o3,zA q2,List.nil_append,List.length_drop,bS,rpS];omega) (hlc:=(fun cc hcc=>lo cc (by cases hcc;rfl)))
noncomputable def T53:List aZ:=[⟨204,[],nm PJ⟩]++T52
theorem e53:a7 Tryz.prog T53:=by
 refine a7.append ?_ e52
 intro e he
 simp only[List.mem_cons,List.not_mem_nil,or_false]at he
 subst he;exact a7C.ok
theorem t53:bK Tryz.prog (a9 T53):=aO e53
end
section
noncomputable abbrev f157:=Tryz.f242
theorem VB (i:Int):aE tt (a9 T53) ([]) 100 f157 [.c (.int .i64 i)] [] [(0,false)]=
  some ⟨.tup [.c (.sl 0 0 4 1 none),.c (.bool true)],[.live (.ints .i64 ([0,0,0,0].set i.toNat 1))],(!!bet i 0 3&&(decide (0≤i)&&(decide (i<4)&&((decide (i.toNat<4))&&true)))),[]⟩:=by kernel_rfl
def unL (i:Int):List Int:=[0,0,0,0].set i.toNat 1
def Q9:aM:=fun args h=>
 match args,h with
 |[.c (.int .i64 i)],[]=>
  some (.tup [.c (.view none (.ints .i64 (unL i)) 4 1 none),.c (.bool true)],[],[bet i 0 3])
 |_,_=>none
theorem a7W:aS Tryz.prog 242 Q9:=by
 intro args h res h' o hnorm he ho
 unfold Q9 at he
 split at he
 case h_2=>cases he
 rename_i i
 simp only[Option.some.injEq,Prod.mk.injEq]at he
 obtain⟨rfl,rfl,rfl⟩:=he
 simp only[List.mem_cons,List.not_mem_nil,or_false,forall_eq_or_imp,forall_eq,decide_eq_true_eq]at ho
 have o1:=ho
 have h:=bN.1 o1
 exact(mo (f:=242) (fn:=f157) t53 (VB i) (by simp only[o1,bS,rpS];omega)).views (o:=[decide (4=(unL i).length)]) rfl (by simp[unL])
noncomputable def T54:List aZ:=[⟨242,[],nm Q9⟩]++T53
theorem e54:a7 Tryz.prog T54:=by
 refine a7.append ?_ e53
 intro e he
 simp only[List.mem_cons,List.not_mem_nil,or_false]at he
 subst he;exact a7W.ok
theorem t54:bK Tryz.prog (a9 T54):=aO e54
noncomputable abbrev f158:=Tryz.f243
noncomputable def uT (m:List (List Int)) (n:Nat) (out:List Int) (i:Int):St:=
 aR f158.ntmps [(0,.c (.view none (.ivs .i64 m) m.length 1 none)),(3,.c (.sl 0 0 n 1 none)),(4,.c (.int .i64 i))] [.live (.ints .i64 out)]
noncomputable def LM (n:Nat) (out:List Int):St:=aR f158.ntmps [(3,.c (.sl 0 0 n 1 none))] [.live (.ints .i64 out)]
theorem SZ (m:List (List Int)) (n:Nat) (out:List Int) (i:Int):aC 0 (a6 f158 0) (a8 f158 0) (aD tt (a9 T54) ([]) 0 100 (a5 0 (a0 f158)) (uT m n out i) [(0,true),(0,true)])=
  some (.normal,(decide (i<(↑m.length:Int))&&(decide (0≤i)&&(decide (i≤(↑m.length:Int))&&(decide (0≤i)&&(decide (i<(↑m.length:Int))&&(decide (i.toNat<m.length)&&(decide ((List.take i.toNat m).length≤274877906944)&&(eJ (List.take i.toNat m)&&(decide ((m.getD i.toNat []).length≤274877906944)&&(decide ((cJ (List.take i.toNat m)).length≤1000)&&(iQ (m.getD i.toNat []).length (cJ (List.take i.toNat m))&&(aA (m.getD i.toNat [])&&(!iJ (List.take i.toNat m) (m.getD i.toNat [])&&(decide (n=out.length)&&((decide (n+1≤274877906944))&&true))))))))))))))),[],uT m (n+1) (out++[i]) (IntKind.i64.wrap (i+1))):=by kernel_rfl
theorem T0 (m:List (List Int)) (n:Nat) (out:List Int) (i:Int):aC 0 (a6 f158 0) (a8 f158 0) (aD tt (a9 T54) ([]) 0 100 (a5 0 (a0 f158)) (uT m n out i) [(0,true),(0,false)])=
  some (.normal,(decide (i<(↑m.length:Int))&&(decide (0≤i)&&(decide (i≤(↑m.length:Int))&&(decide (0≤i)&&(decide (i<(↑m.length:Int))&&(decide (i.toNat<m.length)&&(decide ((List.take i.toNat m).length≤274877906944)&&(eJ (List.take i.toNat m)&&(decide ((m.getD i.toNat []).length≤274877906944)&&(decide ((cJ (List.take i.toNat m)).length≤1000)&&(iQ (m.getD i.toNat []).length (cJ (List.take i.toNat m))&&(aA (m.getD i.toNat [])&&((!!iJ (List.take i.toNat m) (m.getD i.toNat []))&&true))))))))))))),[],uT m (n) (out) (IntKind.i64.wrap (i+1))):=by kernel_rfl
theorem T1 (m:List (List Int)) (n:Nat) (out:List Int) (i:Int):aC 0 (a6 f158 0) (a8 f158 0) (aD tt (a9 T54) ([]) 0 100 (a5 0 (a0 f158)) (uT m n out i) [(0,false)])=
  some (.exit 0,((!decide (i<(↑m.length:Int)))&&true),[],LM (n) (out)):=by kernel_rfl
noncomputable abbrev f104:=Tryz.f158
noncomputable def lA (k:Int) (w:List Int) (c:List Bool) (n:Nat) (rows:List (List Int)) (g:Nat) (got:List Int) (i:Int):St:=
 aR f104.ntmps [(0,.c (.int .i64 k)),(1,.c (.view none (.ints .i64 w) w.length 1 none)),(2,.c (.view none (.bools c) c.length 1 none)),(7,.c (.sl 0 0 n 1 none)),(8,.c (.sl 1 0 g 1 none)),(9,.c (.int .i64 i))]
  [.live (.ivs .i64 rows),.live (.ints .i64 got)]
noncomputable def L9:St:=aR f104.ntmps [] []
noncomputable def LZ:St:=aR f104.ntmps [(6,.c (.bool false))] []
noncomputable def qP (k:Int) (w:List Int) (c:List Bool) (n:Nat) (rows:List (List Int)) (g:Nat) (got:List Int) (i:Int) (b:Nat) (by_:List Int) (x j:Int):St:=
 aR f104.ntmps [(0,.c (.int .i64 k)),(1,.c (.view none (.ints .i64 w) w.length 1 none)),(2,.c (.view none (.bools c) c.length 1 none)),(7,.c (.sl 0 0 n 1 none)),(8,.c (.sl 1 0 g 1 none)),(9,.c (.int .i64 i)),(11,.c (.sl 2 0 b 1 none)),(13,.c (.int .i64 x)),(14,.c (.int .i64 j))]
  [.live (.ivs .i64 rows),.live (.ints .i64 got),.live (.ints .i64 by_)]
noncomputable def vH (k:Int) (w:List Int) (c:List Bool) (n:Nat) (rows:List (List Int)) (g:Nat) (got:List Int) (i x:Int):St:=
 aR f104.ntmps [(0,.c (.int .i64 k)),(1,.c (.view none (.ints .i64 w) w.length 1 none)),(2,.c (.view none (.bools c) c.length 1 none)),(7,.c (.sl 0 0 n 1 none)),(8,.c (.sl 1 0 g 1 none)),(9,.c (.int .i64 i)),(13,.c (.int .i64 x))]
  [.live (.ivs .i64 rows),.live (.ints .i64 got)]
theorem RE (k:Int) (w:List Int) (c:List Bool) (n:Nat) (rows:List (List Int)) (g:Nat) (got:List Int) (i:Int) (b:Nat) (by_:List Int) (x j:Int):aC 0 (a6 f104 2) (a8 f104 2) (aD tt (a9 T54) ([]) 0 100 (a5 2 (a0 f104)) (qP k w c n rows g got i b by_ x j) [(0,true)])=
  some (.normal,(decide (j<(↑b:Int))&&(decide (0≤j)&&(decide (j<(↑b:Int))&&(decide (j.toNat<by_.length)&&(decide (0≤j)&&(decide (j<(↑g:Int))&&((decide (j.toNat<got.length))&&true))))))),[],qP k w c (n) (rows) (g) (got) (i) (b) (by_) ((IntKind.i64.wrap (x+IntKind.i64.wrap (by_.getD j.toNat 0*got.getD j.toNat 0))).tmod 31) (IntKind.i64.wrap (j+1))):=by kernel_rfl
theorem RF (k:Int) (w:List Int) (c:List Bool) (n:Nat) (rows:List (List Int)) (g:Nat) (got:List Int) (i:Int) (b:Nat) (by_:List Int) (x j:Int):aC 0 (a6 f104 2) (a8 f104 2) (aD tt (a9 T54) ([]) 0 100 (a5 2 (a0 f104)) (qP k w c n rows g got i b by_ x j) [(0,false)])=
  some (.exit 2,((!decide (j<(↑b:Int)))&&true),[],vH k w c (n) (rows) (g) (got) (i) (x)):=by kernel_rfl
theorem RT (k:Int) (w:List Int) (c:List Bool) (n:Nat) (rows:List (List Int)) (g:Nat) (got:List Int) (i x:Int):aC 0 (a6 f104 0) (a8 f104 0) (aD tt (a9 T54) ([(2,⟨a6 f104 2,qP k w c n rows g got i (byD rows (aH k i)).length (byD rows (aH k i)) 0 0,.normal,vH k w c n rows g got i x⟩)]) 0 100 (a5 0 (a0 f104)) (lA k w c n rows g got i) [(0,true),(0,false),(0,true),(0,true)])=
  some (.ret,(decide (i<8)&&(decide (0≤i)&&(decide (i<(↑c.length:Int))&&(decide (i.toNat<c.length)&&((!!c.getD i.toNat false)&&(bet k 1 2&&(bet i 0 7&&(decide (n=rows.length)&&(decide (rows.length≤274877906944)&&(eJ rows&&(decide ((aH k i).length≤274877906944)&&(decide ((cJ rows).length≤1000)&&(iQ (aH k i).length (cJ rows)&&(aA (aH k i)&&(iJ rows (aH k i)&&(decide (n=rows.length)&&(decide (rows.length≤1000)&&(bU 4 rows&&(decide ((aH k i).length=4)&&(aA (aH k i)&&(decide (0≤i)&&(decide (i<(↑w.length:Int))&&(decide (i.toNat<w.length)&&((x !=w.getD i.toNat 0)&&true)))))))))))))))))))))))),[qP k w c n rows g got i (byD rows (aH k i)).length (byD rows (aH k i)) 0 0=qP k w c n rows g got i (byD rows (aH k i)).length (byD rows (aH k i)) 0 0],LZ):=by kernel_rfl
theorem RU (k:Int) (w:List Int) (c:List Bool) (n:Nat) (rows:List (List Int)) (g:Nat) (got:List Int) (i x:Int):aC 0 (a6 f104 0) (a8 f104 0) (aD tt (a9 T54) ([(2,⟨a6 f104 2,qP k w c n rows g got i (byD rows (aH k i)).length (byD rows (aH k i)) 0 0,.normal,vH k w c n rows g got i x⟩)]) 0 100 (a5 0 (a0 f104)) (lA k w c n rows g got i) [(0,true),(0,false),(0,true),(0,false)])=
  some (.normal,(decide (i<8)&&(decide (0≤i)&&(decide (i<(↑c.length:Int))&&(decide (i.toNat<c.length)&&((!!c.getD i.toNat false)&&(bet k 1 2&&(bet i 0 7&&(decide (n=rows.length)&&(decide (rows.length≤274877906944)&&(eJ rows&&(decide ((aH k i).length≤274877906944)&&(decide ((cJ rows).length≤1000)&&(iQ (aH k i).length (cJ rows)&&(aA (aH k i)&&(iJ rows (aH k i)&&(decide (n=rows.length)&&(decide (rows.length≤1000)&&(bU 4 rows&&(decide ((aH k i).length=4)&&(aA (aH k i)&&(decide (0≤i)&&(decide (i<(↑w.length:Int))&&(decide (i.toNat<w.length)&&((!x !=w.getD i.toNat 0)&&true)))))))))))))))))))))))),[qP k w c n rows g got i (byD rows (aH k i)).length (byD rows (aH k i)) 0 0=qP k w c n rows g got i (byD rows (aH k i)).length (byD rows (aH k i)) 0 0],lA k w c (n) (rows) (g) (got) (IntKind.i64.wrap (i+1))):=by kernel_rfl
theorem N1 (k:Int) (w:List Int) (c:List Bool) (n:Nat) (rows:List (List Int)) (g:Nat) (got:List Int) (i:Int):aC 0 (a6 f104 0) (a8 f104 0) (aD tt (a9 T54) ([]) 0 100 (a5 0 (a0 f104)) (lA k w c n rows g got i) [(0,true),(0,true)])=
  some (.normal,(decide (i<8)&&(decide (0≤i)&&(decide (i<(↑c.length:Int))&&(decide (i.toNat<c.length)&&((!c.getD i.toNat false)&&true))))),[],lA k w c (n) (rows) (g) (got) (IntKind.i64.wrap (i+1))):=by kernel_rfl
theorem N2 (k:Int) (w:List Int) (c:List Bool) (n:Nat) (rows:List (List Int)) (g:Nat) (got:List Int) (i:Int):aC 0 (a6 f104 0) (a8 f104 0) (aD tt (a9 T54) ([]) 0 100 (a5 0 (a0 f104)) (lA k w c n rows g got i) [(0,true),(0,false),(0,false)])=
  some (.normal,(decide (i<8)&&(decide (0≤i)&&(decide (i<(↑c.length:Int))&&(decide (i.toNat<c.length)&&((!!c.getD i.toNat false)&&(bet k 1 2&&(bet i 0 7&&(decide (n=rows.length)&&(decide (rows.length≤274877906944)&&(eJ rows&&(decide ((aH k i).length≤274877906944)&&(decide ((cJ rows).length≤1000)&&(iQ (aH k i).length (cJ rows)&&(aA (aH k i)&&(!iJ rows (aH k i)&&(decide (n=rows.length)&&(decide (n+1≤274877906944)&&(decide (0≤i)&&(decide (i<(↑w.length:Int))&&(decide (i.toNat<w.length)&&(decide (g=got.length)&&((decide (g+1≤274877906944))&&true)))))))))))))))))))))),[],lA k w c (n+1) (rows++[aH k i]) (g+1) (got++[w.getD i.toNat 0]) (IntKind.i64.wrap (i+1))):=by kernel_rfl
theorem N3 (k:Int) (w:List Int) (c:List Bool) (n:Nat) (rows:List (List Int)) (g:Nat) (got:List Int) (i:Int):aC 0 (a6 f104 0) (a8 f104 0) (aD tt (a9 T54) ([]) 0 100 (a5 0 (a0 f104)) (lA k w c n rows g got i) [(0,false)])=
  some (.exit 0,((!decide (i<8))&&true),[],L9):=by kernel_rfl
theorem UE (k:Int) (w:List Int) (c:List Bool):aE tt (a9 T54) ([(0,⟨a6 f104 0,lA k w c 0 [] 0 [] 0,.normal,L9⟩)]) 100 f104 [.c (.int .i64 k),.c (.view none (.ints .i64 w) w.length 1 none),.c (.view none (.bools c) c.length 1 none)] [] []=
  some ⟨.c (.bool true),[],true,[lA k w c 0 [] 0 [] 0=lA k w c 0 [] 0 [] 0]⟩:=by kernel_rfl
theorem OM (k:Int) (w:List Int) (c:List Bool):aE tt (a9 T54) ([(0,⟨a6 f104 0,lA k w c 0 [] 0 [] 0,.ret,LZ⟩)]) 100 f104 [.c (.int .i64 k),.c (.view none (.ints .i64 w) w.length 1 none),.c (.view none (.bools c) c.length 1 none)] [] []=
  some ⟨.c (.bool false),[],true,[lA k w c 0 [] 0 [] 0=lA k w c 0 [] 0 [] 0]⟩:=by kernel_rfl
noncomputable abbrev f137:=Tryz.f208
noncomputable def uR (k:Int) (c:List Bool) (n:Nat) (out:List Int) (i:Int):St:=
 aR f137.ntmps [(0,.c (.int .i64 k)),(1,.c (.view none (.bools c) c.length 1 none)),(5,.c (.sl 0 0 n 1 none)),(6,.c (.int .i64 i))] [.live (.ints .i64 out)]
noncomputable def LJ (k:Int) (c:List Bool) (n:Nat) (out:List Int):St:=
 aR f137.ntmps [(0,.c (.int .i64 k)),(1,.c (.view none (.bools c) c.length 1 none)),(5,.c (.sl 0 0 n 1 none))] [.live (.ints .i64 out)]
theorem SJ (k:Int) (c:List Bool) (n:Nat) (out:List Int) (i:Int):aC 0 (a6 f137 0) (a8 f137 0) (aD tt (a9 T54) ([]) 0 100 (a5 0 (a0 f137)) (uR k c n out i) [(0,true),(0,true)])=
  some (.normal,(decide (i<8)&&(decide (0≤i)&&(decide (i<(↑c.length:Int))&&(decide (i.toNat<c.length)&&((c.getD i.toNat false)&&(decide (n=out.length)&&((decide (n+1≤274877906944))&&true))))))),[],uR k c (n+1) (out++[i]) (IntKind.i64.wrap (i+1))):=by kernel_rfl
theorem SK (k:Int) (c:List Bool) (n:Nat) (out:List Int) (i:Int):aC 0 (a6 f137 0) (a8 f137 0) (aD tt (a9 T54) ([]) 0 100 (a5 0 (a0 f137)) (uR k c n out i) [(0,true),(0,false)])=
  some (.normal,(decide (i<8)&&(decide (0≤i)&&(decide (i<(↑c.length:Int))&&(decide (i.toNat<c.length)&&((!c.getD i.toNat false)&&true))))),[],uR k c (n) (out) (IntKind.i64.wrap (i+1))):=by kernel_rfl
theorem SL (k:Int) (c:List Bool) (n:Nat) (out:List Int) (i:Int):aC 0 (a6 f137 0) (a8 f137 0) (aD tt (a9 T54) ([]) 0 100 (a5 0 (a0 f137)) (uR k c n out i) [(0,false)])=
  some (.exit 0,((!decide (i<8))&&true),[],LJ k c (n) (out)):=by kernel_rfl
noncomputable abbrev f136:=Tryz.f207
noncomputable def yN (k:Int) (w fr:List Int) (n:Nat) (rows:List (List Int)) (i:Int):St:=
 aR f136.ntmps [(0,.c (.int .i64 k)),(1,.c (.view none (.ints .i64 w) w.length 1 none)),(2,.c (.view none (.ints .i64 fr) fr.length 1 none)),(7,.c (.sl 0 0 n 1 none)),(8,.c (.int .i64 i))] [.live (.ivs .i64 rows)]
noncomputable def LI (w fr:List Int) (n:Nat) (rows:List (List Int)):St:=
 aR f136.ntmps [(1,.c (.view none (.ints .i64 w) w.length 1 none)),(2,.c (.view none (.ints .i64 fr) fr.length 1 none)),(7,.c (.sl 0 0 n 1 none))] [.live (.ivs .i64 rows)]
theorem SH (k:Int) (w fr:List Int) (n:Nat) (rows:List (List Int)) (i:Int):aC 0 (a6 f136 0) (a8 f136 0) (aD tt (a9 T54) ([]) 0 100 (a5 0 (a0 f136)) (yN k w fr n rows i) [(0,true)])=
  some (.normal,(decide (i<(↑fr.length:Int))&&(decide (0≤i)&&(decide (i<(↑fr.length:Int))&&(decide (i.toNat<fr.length)&&(bet k 1 2&&(bet (fr.getD i.toNat 0) 0 7&&(decide (n=rows.length)&&((decide (n+1≤274877906944))&&true)))))))),[],yN k w fr (n+1) (rows++[aH k (fr.getD i.toNat 0)]) (IntKind.i64.wrap (i+1))):=by kernel_rfl
theorem SI (k:Int) (w fr:List Int) (n:Nat) (rows:List (List Int)) (i:Int):aC 0 (a6 f136 0) (a8 f136 0) (aD tt (a9 T54) ([]) 0 100 (a5 0 (a0 f136)) (yN k w fr n rows i) [(0,false)])=
  some (.exit 0,((!decide (i<(↑fr.length:Int)))&&true),[],LI w fr (n) (rows)):=by kernel_rfl
end
section
def lJ (m:List (List Int)) (v:List Int):Bool:=decide (m.length≤1000)&&(eJ m&&(decide (v.length≤1000)&&(decide ((cJ m).length≤1000)&&(iQ v.length (cJ m)&&aA v))))
theorem vZ {m:List (List Int)} {v:List Int} (h:lJ m v=true):m.length≤1000∧eJ m=true∧v.length≤1000∧(cJ m).length≤1000∧iQ v.length (cJ m)=true∧aA v=true:=by
 simpa only[lJ,Bool.and_eq_true,decide_eq_true_eq]using h
def fsS (m:List (List Int)) (i:Nat) (o:List Int):List Int:=bif !iJ (m.take i) (m.getD i [])then o++[(i:Int)]else o
def bX (m:List (List Int)):List Int:=bH (fsS m) m.length 0 []
def FA (m:List (List Int)):Bool:=cN (fun i=>lJ (m.take i) (m.getD i [])) m.length
theorem a66 (m:List (List Int)) (hm:m.length≤1000) (hf:FA m=true):
  aN none Tryz.prog 0 (.block 0 (.loop (a5 0 (a0 f158)))) (uT m 0 [] 0) fun e t=>e=.normal∧t=LM (bX m).length (bX m):=by
 refine(aN.count (ro:=none) hT t54 bF (m:=0) (id:=0) (body:=a5 0 (a0 f158)) m.length (fun i o=>o.length≤i) (fun i o=>uT m o.length o i) (fun o=>LM o.length o) (fsS m) (a6 f158 0) (a8 f158 0)
  (fun _ _=>[]) (fun _ _ _ _=>aK.nil) (fun i o hi h=> ?_) (fun o h=>⟨_,_,⟨_,_,T1 m o.length o m.length,by simp,by simp⟩⟩)) [] (by simp)
 obtain⟨h1,h2,h3,h4,h5,h6⟩:=vZ (aX hf i hi)
 unfold fsS
 cases hq:iJ (m.take i) (m.getD i [])with
 |false=>
  refine⟨by simp;omega, ?_⟩
  have e:=SZ m o.length o i
  rw[aB (by omega) (by omega),Int.toNat_natCast]at e
  rw[Bool.not_false,cond_true,List.length_append]
  refine⟨_,_,⟨_,_,e, ?_,by simp⟩⟩
  simp only[hq,h2,h5,h6,bS,rpS]
  omega
 |true=>
  refine⟨by rw[Bool.not_true,cond_false];omega, ?_⟩
  have e:=T0 m o.length o i
  rw[aB (by omega) (by omega),Int.toNat_natCast]at e
  rw[Bool.not_true,cond_false]
  refine⟨_,_,⟨_,_,e, ?_,by simp⟩⟩
  simp only[hq,h2,h5,h6,bS,rpS]
  omega
theorem VC (m:List (List Int)):aE tt (a9 T54) ([(0,⟨a6 f158 0,uT m 0 [] 0,.normal,LM (bX m).length (bX m)⟩)]) 100 f158 [.c (.view none (.ivs .i64 m) m.length 1 none)] [] []=
  some ⟨.c (.sl 0 0 (bX m).length 1 none),[.live (.ints .i64 (bX m))],true,[uT m 0 [] 0=uT m 0 [] 0]⟩:=by kernel_rfl
def wQ:aM:=fun args h=>
 match args,h with
 |[.c (.view _ (.ivs .i64 m) n 1 _)],[]=>
  some (.c (.sl 0 0 (bX m).length 1 none),[.live (.ints .i64 (bX m))],[decide (m.length≤1000),FA m])
 |_,_=>none
theorem a7X:aS Tryz.prog 243 wQ:=by
 intro args h res h' o hnorm he ho
 unfold wQ at he
 split at he
 case h_2=>cases he
 rename_i nl m n cap
 simp only[Option.some.injEq,Prod.mk.injEq]at he
 obtain⟨rfl,rfl,rfl⟩:=he
 simp only[List.mem_cons,List.not_mem_nil,or_false,forall_eq_or_imp,forall_eq,decide_eq_true_eq]at ho
 obtain⟨o1,o2⟩:=ho
 simp only[b8,AV.norm,bA,aF.norm,Con.size,List.cons.injEq,AV.c.injEq,AV.agg.injEq,aF.view.injEq,aL,true_and,and_true]at hnorm
 obtain⟨rfl,rfl,rfl⟩:=hnorm
 exact mo (fn:=f158) t54 (VC m) (by simp) (hlc:=(fun cc hcc=>aK.cons (c:=cc) (by cases hcc;kernel_rfl) (by cases hcc;exact a66 m o1 o2) aK.nil))
theorem sI (v w:List Int): ∀(f i:Nat) (n:Int),pU v w f i n=bH (fun i n=>(n+v.getD i 0*w.getD i 0)%31) f i n
 |0,_,_=>rfl
 |f+1,i,n=>sI v w f (i+1) _
theorem YD (k:Int) (w:List Int) (c:List Bool) (n:Nat) (rows:List (List Int)) (g:Nat) (got:List Int) (i:Int) (b:List Int) (hb:b.length≤1000) (hg:g=got.length) (hl:b.length≤got.length) (h1:aA b=true) (h2:aA got=true):
  aN none Tryz.prog 0 (.block 2 (.loop (a5 2 (a0 f104)))) (qP k w c n rows g got i b.length b 0 0) fun e t=>e=.normal∧t=vH k w c n rows g got i (aP b got):=by
 have key:=aN.count (ro:=none) hT t54 bF (m:=0) (id:=2) (body:=a5 2 (a0 f104)) b.length (fun _ x=>fok x=true) (fun j x=>qP k w c n rows g got i b.length b x j) (fun x=>vH k w c n rows g got i x) (fun i n=>(n+b.getD i 0*got.getD i 0)%31) (a6 f104 2) (a8 f104 2)
  (fun _ _=>[]) (fun _ _ _ _=>aK.nil) (fun j x hj h=>⟨c9 _, ?_⟩) (fun x h=>⟨_,_,⟨_,_,RF k w c n rows g got i b.length b x b.length,by simp,by simp⟩⟩) 0 rfl
 ·unfold aP;rw[sI];exact key
 ·have e:=RE k w c n rows g got i b.length b x j
  rw[Int.toNat_natCast,sJ h (aT h1 j) (aT h2 j),aB (by omega) (by omega)]at e
  refine⟨_,_,⟨_,_,e, ?_,by simp⟩⟩
  simp only[bS,rpS]
  omega
def sfS (k:Int) (w:List Int) (c:List Bool) (i:Nat) (s:List (List Int)×List Int):(List (List Int)×List Int)⊕Unit:=
 bif c.getD i false then(bif iJ s.1 (aH k i)then(bif aP (byD s.1 (aH k i)) s.2 !=w.getD i 0 then .inr ()else .inl s)else .inl (s.1++[aH k i],s.2++[w.getD i 0]))else .inl s
def sfL (k:Int) (w:List Int) (c:List Bool):Bool:=match cD (sfS k w c) 8 0 ([],[])with
 |.inl _=>true
 |.inr _=>false
def rwT (k:Int) (c:List Bool) (i:Nat) (rows:List (List Int)):List (List Int):=bif c.getD i false&& !iJ rows (aH k i)then rows++[aH k i]else rows
def A8 (k:Int) (c:List Bool):Nat→Nat→List (List Int)→Bool
 |0,_,_=>true
 |f+1,i,rows=>(bif c.getD i false then lJ rows (aH k i)else true)&&A8 k c f (i+1) (rwT k c i rows)
theorem DX {m:List (List Int)} {v:List Int} (hm:bU 4 m=true) (h1:v.length=4) (h2:aA v=true):(byD m v).length≤m.length∧aA (byD m v)=true:=by
 obtain⟨-,q1,q2⟩:=DY hm h1 h2
 unfold byD
 cases bet (aV (byE m v).2) 0 3
 ·rw[cond_false];exact⟨by rw[fM,List.length_drop];omega,mI _ _⟩
 ·exact⟨by simp,rfl⟩
theorem QN:a5 2 (a5 0 (a0 f104))=a5 2 (a0 f104):=by kernel_rfl
theorem a5P (k:Int) (w:List Int) (c:List Bool) (hk:bet k 1 2=true) (hw:w.length=8) (hf:aA w=true) (hc:c.length=8) (ho:A8 k c 8 0 []=true):
  aN none Tryz.prog 0 (.block 0 (.loop (a5 0 (a0 f104)))) (lA k w c 0 [] 0 [] 0) fun e t=>e=(bif sfL k w c then .normal else .ret)∧t=bif sfL k w c then L9 else LZ:=by
 have key:=aN.countE (ro:=none) hT t54 bF (m:=0) (id:=0) (body:=a5 0 (a0 f104)) (β:=List (List Int)×List Int) (γ:=Unit) 8
  (fun i s=>s.1.length≤i∧s.2.length=s.1.length∧bU 4 s.1=true∧aA s.2=true∧A8 k c (8-i) i s.1=true) (fun i s=>lA k w c s.1.length s.1 s.2.length s.2 i) (fun _=>L9) (fun _=>LZ) .ret (.inr rfl) (sfS k w c) (a6 f104 0) (a8 f104 0)
  (fun i s=>bif c.getD i false&&iJ s.1 (aH k i)then [(2,⟨a6 f104 2,qP k w c s.1.length s.1 s.2.length s.2 i (byD s.1 (aH k i)).length (byD s.1 (aH k i)) 0 0,.normal,vH k w c s.1.length s.1 s.2.length s.2 i (aP (byD s.1 (aH k i)) s.2)⟩)]else [])
  (fun i s hi h=> ?_) (fun i s hi h=> ?_) (fun s h=>⟨_,_,⟨_,_,N3 k w c s.1.length s.1 s.2.length s.2 (8:Nat),by simp,by simp⟩⟩) ([],[]) ⟨by simp,rfl,rfl,rfl,ho⟩
 ·refine aN.mono key fun e t h=> ?_
  unfold sfL
  revert h
  cases cD (sfS k w c) 8 0 ([],[])<;>exact fun h=>h
 ·obtain⟨h1,h2,h3,h4,h5⟩:=h
  have hb:bet (i:Int) 0 7=true:=bN.2 ⟨by omega,by omega⟩
  cases hx:c.getD i false&&iJ s.1 (aH k i)with
  |false=>exact aK.nil
  |true=>
   obtain⟨q1,q2⟩:=DX h3 (kH hk hb) (kG hk hb)
   exact aK.cons (by kernel_rfl) (by rw[QN];exact YD k w c s.1.length s.1 s.2.length s.2 i (byD s.1 (aH k i)) (by omega) rfl (by omega) q2 h4) aK.nil
 ·obtain⟨h1,h2,h3,h4,h5⟩:=h
  have hb:bet (i:Int) 0 7=true:=bN.2 ⟨by omega,by omega⟩
  have hb':=bN.1 hb
  rw[show 8-i=(8-(i+1))+1 from by omega]at h5
  simp only[A8,Bool.and_eq_true,rpS]at h5
  obtain⟨h5,h6⟩:=h5
  have g1:=kH hk hb
  have g2:=kG hk hb
  cases hq:c.getD i false with
  |false=>
   refine .inl ⟨s,by simp only[sfS,hq,cond_false],⟨by omega,h2,h3,h4, ?_⟩, ?_⟩
   ·unfold rwT at h6;rw[hq,Bool.false_and,cond_false]at h6;exact h6
   ·have e:=N1 k w c s.1.length s.1 s.2.length s.2 i
    rw[aB (by omega) (by omega),Int.toNat_natCast]at e
    rw[Bool.false_and,cond_false]
    refine⟨_,_,⟨_,_,e, ?_,by simp⟩⟩
    simp only[hq,bS,rpS]
    omega
  |true=>
   rw[hq,cond_true]at h5
   obtain⟨z1,z2,z3,z4,z5,z6⟩:=vZ h5
   cases hh:iJ s.1 (aH k i)with
   |false=>
    refine .inl ⟨(s.1++[aH k i],s.2++[w.getD i 0]),by simp only[sfS,hq,hh,cond_true,cond_false],⟨by simp;omega,by simp;omega,mH h3 g1 g2,eB h4 (by simp[aA,aT hf,-List.getD_eq_getElem?_getD]), ?_⟩, ?_⟩
    ·unfold rwT at h6;rw[hq,hh,Bool.true_and,Bool.not_false,cond_true]at h6;exact h6
    ·have e:=N2 k w c s.1.length s.1 s.2.length s.2 i
     rw[aB (by omega) (by omega),Int.toNat_natCast]at e
     rw[Bool.true_and,cond_false]
     simp only[List.length_append,List.length_cons,List.length_nil]
     refine⟨_,_,⟨_,_,e, ?_,by simp⟩⟩
     simp only[hq,hh,hk,hb,g1,g2,z2,z4,z6,bS,rpS]
     rw[g1]at z5
     simp only[z5,bS,rpS]
     omega
   |true=>
    have z5':=z5
    rw[g1]at z5'
    cases hd:(aP (byD s.1 (aH k i)) s.2 !=w.getD i 0)with
    |true=>
     refine .inr ⟨(),by simp only[sfS,hq,hh,hd,cond_true], ?_⟩
     have e:=RT k w c s.1.length s.1 s.2.length s.2 i (aP (byD s.1 (aH k i)) s.2)
     rw[Int.toNat_natCast]at e
     rw[Bool.true_and,cond_true,if_neg (by intro h;cases h)]
     refine⟨_,_,⟨_,_,e, ?_,by simp⟩⟩
     simp only[hq,hh,hk,hb,hd,g1,g2,h3,z2,z4,z5',z6,bS,rpS]
     omega
    |false=>
     refine .inl ⟨s,by simp only[sfS,hq,hh,hd,cond_true,cond_false],⟨by omega,h2,h3,h4, ?_⟩, ?_⟩
     ·unfold rwT at h6;rw[hq,hh,Bool.true_and,Bool.not_true,cond_false]at h6;exact h6
     ·have e:=RU k w c s.1.length s.1 s.2.length s.2 i (aP (byD s.1 (aH k i)) s.2)
      rw[aB (by omega) (by omega),Int.toNat_natCast]at e
      rw[Bool.true_and,cond_true]
      refine⟨_,_,⟨_,_,e, ?_,by simp⟩⟩
      simp only[hq,hh,hk,hb,hd,g1,g2,h3,z2,z4,z5',z6,bS,rpS]
      omega
def PY:aM:=fun args h=>
 match args,h with
 |[.c (.int .i64 k),.c (.view _ (.ints .i64 w) n1 1 _),.c (.view _ (.bools c) n2 1 _)],[]=>
  some (.c (.bool (sfL k w c)),[],[bet k 1 2,decide (w.length=8),aA w,decide (c.length=8),A8 k c 8 0 []])
 |_,_=>none
theorem YJ:aS Tryz.prog 158 PY:=by
 intro args h res h' o hnorm he ho
 unfold PY at he
 split at he
 case h_2=>cases he
 rename_i k nl w n cap nl2 c n2 cap2
 simp only[Option.some.injEq,Prod.mk.injEq]at he
 obtain⟨rfl,rfl,rfl⟩:=he
 simp only[List.mem_cons,List.not_mem_nil,or_false,forall_eq_or_imp,forall_eq,decide_eq_true_eq]at ho
 obtain⟨o1,o2,o3,o4,o5⟩:=ho
 simp only[b8,AV.norm,bA,aF.norm,Con.size,List.cons.injEq,AV.c.injEq,AV.agg.injEq,aF.view.injEq,aL,true_and,and_true]at hnorm
 obtain⟨⟨rfl,rfl,rfl⟩,rfl,rfl,rfl⟩:=hnorm
 have g:=a5P k w c o1 o2 o3 o4 o5
 cases hx:sfL k w c with
 |true=>
  rw[hx]at g
  exact mo (fn:=f104) t54 (UE k w c) (by simp) (hlc:=(fun cc hcc=>aK.cons (c:=cc) (by cases hcc;kernel_rfl) (by cases hcc;exact g) aK.nil))
 |false=>
  rw[hx]at g
  exact mo (fn:=f104) t54 (OM k w c) (by simp) (hlc:=(fun cc hcc=>aK.cons (c:=cc) (by cases hcc;kernel_rfl) (by cases hcc;exact g) aK.nil))
noncomputable def T55:List aZ:=[⟨243,[],nm wQ⟩,⟨158,[],nm PY⟩]++T54
theorem e55:a7 Tryz.prog T55:=by
 refine a7.append ?_ e54
 intro e he
 simp only[List.mem_cons,List.not_mem_nil,or_false]at he
 rcases he with rfl|rfl
 ·exact a7X.ok
 ·exact YJ.ok
theorem t55:bK Tryz.prog (a9 T55):=aO e55
end
section
noncomputable def xJ (n:Nat) (ats:List Int) (m:Nat) (fst:List Int) (g:Nat) (out:List Int) (i:Int):St:=
 aR f137.ntmps [(5,.c (.sl 0 0 n 1 none)),(7,.c (.sl 1 0 m 1 none)),(8,.c (.sl 2 0 g 1 none)),(9,.c (.int .i64 i))] [.live (.ints .i64 ats),.live (.ints .i64 fst),.live (.ints .i64 out)]
noncomputable def HP (g:Nat) (out:List Int):St:=aR f137.ntmps [(8,.c (.sl 0 0 g 1 none))] [.live (.ints .i64 out)]
theorem RH (n:Nat) (ats:List Int) (m:Nat) (fst:List Int) (g:Nat) (out:List Int) (i:Int):aC 0 (a6 f137 2) (a8 f137 2) (aD tt (a9 T55) ([]) 0 100 (a5 2 (a0 f137)) (xJ n ats m fst g out i) [(0,true)])=
  some (.normal,(decide (i<(↑m:Int))&&(decide (0≤i)&&(decide (i<(↑m:Int))&&(decide (i.toNat<fst.length)&&(decide (0≤fst.getD i.toNat 0)&&(decide (fst.getD i.toNat 0<(↑n:Int))&&(decide ((fst.getD i.toNat 0).toNat<ats.length)&&(decide (g=out.length)&&((decide (g+1≤274877906944))&&true))))))))),[],xJ n ats m fst (g+1) (out++[ats.getD (fst.getD i.toNat 0).toNat 0]) (IntKind.i64.wrap (i+1))):=by kernel_rfl
theorem RI (n:Nat) (ats:List Int) (m:Nat) (fst:List Int) (g:Nat) (out:List Int) (i:Int):aC 0 (a6 f137 2) (a8 f137 2) (aD tt (a9 T55) ([]) 0 100 (a5 2 (a0 f137)) (xJ n ats m fst g out i) [(0,false)])=
  some (.exit 2,((!decide (i<(↑m:Int)))&&true),[],HP (g) (out)):=by kernel_rfl
noncomputable def yW (w fr:List Int) (n:Nat) (rows:List (List Int)) (g:Nat) (out:List Int) (i:Int):St:=
 aR f136.ntmps [(1,.c (.view none (.ints .i64 w) w.length 1 none)),(2,.c (.view none (.ints .i64 fr) fr.length 1 none)),(7,.c (.sl 0 0 n 1 none)),(9,.c (.sl 1 0 g 1 none)),(10,.c (.int .i64 i))] [.live (.ivs .i64 rows),.live (.ints .i64 out)]
noncomputable def ER (g:Nat) (out:List Int):St:=aR f136.ntmps [(9,.c (.sl 0 0 g 1 none))] [.live (.ints .i64 out)]
noncomputable def xK (w fr:List Int) (n:Nat) (rows:List (List Int)) (g:Nat) (out:List Int) (i:Int) (b:Nat) (by_:List Int) (x j:Int):St:=
 aR f136.ntmps [(1,.c (.view none (.ints .i64 w) w.length 1 none)),(2,.c (.view none (.ints .i64 fr) fr.length 1 none)),(7,.c (.sl 0 0 n 1 none)),(9,.c (.sl 1 0 g 1 none)),(10,.c (.int .i64 i)),(13,.c (.sl 2 0 b 1 none)),(15,.c (.int .i64 x)),(16,.c (.int .i64 j))]
  [.live (.ivs .i64 rows),.live (.ints .i64 out),.live (.ints .i64 by_)]
noncomputable def HT (w fr:List Int) (n:Nat) (rows:List (List Int)) (g:Nat) (out:List Int) (i x:Int):St:=
 aR f136.ntmps [(1,.c (.view none (.ints .i64 w) w.length 1 none)),(2,.c (.view none (.ints .i64 fr) fr.length 1 none)),(7,.c (.sl 0 0 n 1 none)),(9,.c (.sl 1 0 g 1 none)),(10,.c (.int .i64 i)),(15,.c (.int .i64 x))]
  [.live (.ivs .i64 rows),.live (.ints .i64 out)]
theorem RN (w fr:List Int) (n:Nat) (rows:List (List Int)) (g:Nat) (out:List Int) (i:Int) (b:Nat) (by_:List Int) (x j:Int):aC 0 (a6 f136 4) (a8 f136 4) (aD tt (a9 T55) ([]) 0 100 (a5 4 (a0 f136)) (xK w fr n rows g out i b by_ x j) [(0,true)])=
  some (.normal,(decide (j<(↑fr.length:Int))&&(decide (0≤j)&&(decide (j<(↑b:Int))&&(decide (j.toNat<by_.length)&&(decide (0≤j)&&(decide (j<(↑fr.length:Int))&&(decide (j.toNat<fr.length)&&(decide (0≤fr.getD j.toNat 0)&&(decide (fr.getD j.toNat 0<(↑w.length:Int))&&((decide ((fr.getD j.toNat 0).toNat<w.length))&&true)))))))))),[],xK w fr (n) (rows) (g) (out) (i) (b) (by_) ((IntKind.i64.wrap (x+IntKind.i64.wrap (by_.getD j.toNat 0*w.getD (fr.getD j.toNat 0).toNat 0))).tmod 31) (IntKind.i64.wrap (j+1))):=by kernel_rfl
theorem RO (w fr:List Int) (n:Nat) (rows:List (List Int)) (g:Nat) (out:List Int) (i:Int) (b:Nat) (by_:List Int) (x j:Int):aC 0 (a6 f136 4) (a8 f136 4) (aD tt (a9 T55) ([]) 0 100 (a5 4 (a0 f136)) (xK w fr n rows g out i b by_ x j) [(0,false)])=
  some (.exit 4,((!decide (j<(↑fr.length:Int)))&&true),[],HT w fr (n) (rows) (g) (out) (i) (x)):=by kernel_rfl
theorem RG (w fr:List Int) (n:Nat) (rows:List (List Int)) (g:Nat) (out:List Int) (i x:Int):aC 0 (a6 f136 2) (a8 f136 2) (aD tt (a9 T55) ([(4,⟨a6 f136 4,xK w fr n rows g out i (byD rows (unL i)).length (byD rows (unL i)) 0 0,.normal,HT w fr n rows g out i x⟩)]) 0 100 (a5 2 (a0 f136)) (yW w fr n rows g out i) [(0,true)])=
  some (.normal,(decide (i<4)&&(bet i 0 3&&(decide (n=rows.length)&&(decide (rows.length≤1000)&&(bU 4 rows&&(decide ((unL i).length=4)&&(aA (unL i)&&(decide (g=out.length)&&((decide (g+1≤274877906944))&&true))))))))),[xK w fr n rows g out i (byD rows (unL i)).length (byD rows (unL i)) 0 0=xK w fr n rows g out i (byD rows (unL i)).length (byD rows (unL i)) 0 0],yW w fr (n) (rows) (g+1) (out++[x]) (IntKind.i64.wrap (i+1))):=by kernel_rfl
theorem MQ (w fr:List Int) (n:Nat) (rows:List (List Int)) (g:Nat) (out:List Int) (i:Int):aC 0 (a6 f136 2) (a8 f136 2) (aD tt (a9 T55) ([]) 0 100 (a5 2 (a0 f136)) (yW w fr n rows g out i) [(0,false)])=
  some (.exit 2,((!decide (i<4))&&true),[],ER (g) (out)):=by kernel_rfl
theorem V2 (k:Int) (w fr:List Int) (rows:List (List Int)) (out:List Int):aE tt (a9 T55) ([(0,⟨a6 f136 0,yN k w fr 0 [] 0,.normal,LI w fr rows.length rows⟩),(2,⟨a6 f136 2,yW w fr rows.length rows 0 [] 0,.normal,ER 4 out⟩)]) 100 f136 [.c (.int .i64 k),.c (.view none (.ints .i64 w) w.length 1 none),.c (.view none (.ints .i64 fr) fr.length 1 none)] [] []=
  some ⟨.c (.sl 0 0 4 1 none),[.live (.ints .i64 out)],true,[yN k w fr 0 [] 0=yN k w fr 0 [] 0,yW w fr rows.length rows 0 [] 0=yW w fr rows.length rows 0 [] 0]⟩:=by kernel_rfl
theorem V3 (k:Int) (c:List Bool) (ats out:List Int):aE tt (a9 T55) ([(0,⟨a6 f137 0,uR k c 0 [] 0,.normal,LJ k c ats.length ats⟩),(2,⟨a6 f137 2,xJ ats.length ats (bX (rwL k c)).length (bX (rwL k c)) 0 [] 0,.normal,HP out.length out⟩)]) 100 f137 [.c (.int .i64 k),.c (.view none (.bools c) c.length 1 none)] [] []=
  some ⟨.c (.sl 0 0 out.length 1 none),[.live (.ints .i64 out)],(bet k 1 2&&(decide (c.length=8)&&(decide ((rwL k c).length≤1000)&&((FA (rwL k c))&&true)))),[uR k c 0 [] 0=uR k c 0 [] 0,xJ ats.length ats (bX (rwL k c)).length (bX (rwL k c)) 0 [] 0=xJ ats.length ats (bX (rwL k c)).length (bX (rwL k c)) 0 [] 0]⟩:=by kernel_rfl
end
section
def faS (c:List Bool) (i:Nat) (o:List Int):List Int:=bif c.getD i false then o++[(i:Int)]else o
theorem JH (c:List Bool): ∀(f i:Nat) (o:List Int),bH (faS c) f i o=o++eY c f i
 |0,i,o=>by simp[bH,eY]
 |f+1,i,o=>by
  have e:bH (faS c) (f+1) i o=bH (faS c) f (i+1) (faS c i o):=rfl
  rw[e,JH c f (i+1)]
  simp only[eY,faS]
  cases c.getD i false<;>simp
theorem MG {c:List Bool} (hc:c.length=8):bH (faS c) 8 0 []=flg c:=by rw[JH,flg,hc];rfl
theorem a60 (k:Int) (c:List Bool) (hc:c.length=8):
  aN none Tryz.prog 0 (.block 0 (.loop (a5 0 (a0 f137)))) (uR k c 0 [] 0) fun e t=>e=.normal∧t=LJ k c (flg c).length (flg c):=by
 have key:=aN.count (ro:=none) hT t54 bF (m:=0) (id:=0) (body:=a5 0 (a0 f137)) 8 (fun i o=>o.length≤i) (fun i o=>uR k c o.length o i) (fun o=>LJ k c o.length o) (faS c) (a6 f137 0) (a8 f137 0)
  (fun _ _=>[]) (fun _ _ _ _=>aK.nil) (fun i o hi h=> ?_) (fun o h=>⟨_,_,⟨_,_,SL k c o.length o (8:Nat),by simp,by simp⟩⟩) [] (by simp)
 ·rw[MG hc]at key;exact key
 ·unfold faS
  cases hq:c.getD i false with
  |true=>
   refine⟨by simp;omega, ?_⟩
   have e:=SJ k c o.length o i
   rw[aB (by omega) (by omega),Int.toNat_natCast]at e
   rw[cond_true,List.length_append]
   refine⟨_,_,⟨_,_,e, ?_,by simp⟩⟩
   simp only[hq,bS,rpS]
   omega
  |false=>
   refine⟨by rw[cond_false];omega, ?_⟩
   have e:=SK k c o.length o i
   rw[aB (by omega) (by omega),Int.toNat_natCast]at e
   rw[cond_false]
   refine⟨_,_,⟨_,_,e, ?_,by simp⟩⟩
   simp only[hq,bS,rpS]
   omega
def frS (c:List Bool) (fst:List Int) (i:Nat) (o:List Int):List Int:=o++[(flg c).getD (fst.getD i 0).toNat 0]
def frL (k:Int) (c:List Bool):List Int:=bH (frS c (bX (rwL k c))) (bX (rwL k c)).length 0 []
theorem kU (k:Int) (c:List Bool):(frL k c).length=(bX (rwL k c)).length:=
 aY (step:=frS c (bX (rwL k c))) (fun i o=>o.length=i) _ [] rfl fun i o _ h=>by simp[frS,h]
theorem YG (ats c:List Int) (fst:List Int) (cc:List Bool) (ha:ats=flg cc) (hf:fst.length≤1000) (hp:d7 fst ats.length=true):
  aN none Tryz.prog 0 (.block 2 (.loop (a5 2 (a0 f137)))) (xJ ats.length ats fst.length fst 0 [] 0) fun e t=>e=.normal∧t=HP fst.length (bH (frS cc fst) fst.length 0 []):=by
 have hl:(bH (frS cc fst) fst.length 0 []).length=fst.length:=aY (step:=frS cc fst) (fun i o=>o.length=i) _ [] rfl fun i o _ h=>by simp[frS,h]
 have key:=aN.count (ro:=none) hT t55 bF (m:=0) (id:=2) (body:=a5 2 (a0 f137)) fst.length (fun i o=>o.length=i) (fun i o=>xJ ats.length ats fst.length fst o.length o i) (fun o=>HP o.length o) (frS cc fst) (a6 f137 2) (a8 f137 2)
  (fun _ _=>[]) (fun _ _ _ _=>aK.nil) (fun i o hi h=>⟨by simp[frS,h], ?_⟩) (fun o h=>⟨_,_,⟨_,_,RI ats.length ats fst.length fst o.length o fst.length,by simp,by simp⟩⟩) [] rfl
 ·rw[hl]at key;exact key
 ·have hp':=gL hp hi
  have e:=RH ats.length ats fst.length fst o.length o i
  rw[aB (by omega) (by omega),Int.toNat_natCast]at e
  unfold frS
  rw[List.length_append,←ha]
  refine⟨_,_,⟨_,_,e, ?_,by simp⟩⟩
  simp only[bS,rpS]
  omega
def BL:aM:=fun args h=>
 match args,h with
 |[.c (.int .i64 k),.c (.view _ (.bools c) n 1 _)],[]=>
  some (.c (.sl 0 0 (frL k c).length 1 none),[.live (.ints .i64 (frL k c))],[bet k 1 2,decide (c.length=8),decide ((rwL k c).length≤1000),FA (rwL k c),d7 (bX (rwL k c)) (flg c).length,decide ((bX (rwL k c)).length≤1000)])
 |_,_=>none
theorem a7G:aS Tryz.prog 208 BL:=by
 intro args h res h' o hnorm he ho
 unfold BL at he
 split at he
 case h_2=>cases he
 rename_i k nl c n cap
 simp only[Option.some.injEq,Prod.mk.injEq]at he
 obtain⟨rfl,rfl,rfl⟩:=he
 simp only[List.mem_cons,List.not_mem_nil,or_false,forall_eq_or_imp,forall_eq,decide_eq_true_eq]at ho
 obtain⟨o1,o2,o3,o4,o5,o6⟩:=ho
 simp only[b8,AV.norm,bA,aF.norm,Con.size,List.cons.injEq,AV.c.injEq,AV.agg.injEq,aF.view.injEq,aL,true_and,and_true]at hnorm
 obtain⟨rfl,rfl,rfl⟩:=hnorm
 have g:=YG (flg c) [] (bX (rwL k c)) c rfl o6 o5
 have e:=V3 k c (flg c) (frL k c)
 rw[←kU k c]at g
 have g':aN none Tryz.prog 0 (.block 2 (.loop (a5 2 (a0 f137)))) (xJ (flg c).length (flg c) (bX (rwL k c)).length (bX (rwL k c)) 0 [] 0) fun e t=>e=.normal∧t=HP (frL k c).length (frL k c):=by rw[kU];rw[kU]at g;exact g
 exact mo (fn:=f137) t55 e (by simp only[o1,o2,o4,bS,rpS];omega) (hlc:=(fun cc hcc=>aK.cons (c:=cc) (by cases hcc;kernel_rfl) (by cases hcc;exact a60 k c o2) (aK.cons (by cases hcc;kernel_rfl) (by cases hcc;exact g') aK.nil)))
def rfS (k:Int) (fr:List Int) (i:Nat) (o:List (List Int)):List (List Int):=o++[aH k (fr.getD i 0)]
def rfL (k:Int) (fr:List Int):List (List Int):=bH (rfS k fr) fr.length 0 []
theorem O6 {k:Int} {fr:List Int} (hk:bet k 1 2=true) (hf:bC fr=true):(rfL k fr).length=fr.length∧bU 4 (rfL k fr)=true:=
 aY (step:=rfS k fr) (fun i o=>o.length=i∧bU 4 o=true) fr.length [] ⟨rfl,rfl⟩ fun i o hi h=>by
  have hb:=d8 hf hi
  exact⟨by simp[rfS,h.1],mH h.2 (kH hk hb) (kG hk hb)⟩
theorem a5Z (k:Int) (w fr:List Int) (hk:bet k 1 2=true) (hf:bC fr=true) (hl:fr.length≤1000):
  aN none Tryz.prog 0 (.block 0 (.loop (a5 0 (a0 f136)))) (yN k w fr 0 [] 0) fun e t=>e=.normal∧t=LI w fr (rfL k fr).length (rfL k fr):=by
 refine aN.count (ro:=none) hT t54 bF (m:=0) (id:=0) (body:=a5 0 (a0 f136)) fr.length (fun i o=>o.length=i) (fun i o=>yN k w fr o.length o i) (fun o=>LI w fr o.length o) (rfS k fr) (a6 f136 0) (a8 f136 0)
  (fun _ _=>[]) (fun _ _ _ _=>aK.nil) (fun i o hi h=>⟨by simp[rfS,h], ?_⟩) (fun o h=>⟨_,_,⟨_,_,SI k w fr o.length o fr.length,by simp,by simp⟩⟩) [] rfl
 have hb:=d8 hf hi
 have e:=SH k w fr o.length o i
 rw[aB (by omega) (by omega),Int.toNat_natCast]at e
 unfold rfS
 rw[List.length_append]
 refine⟨_,_,⟨_,_,e, ?_,by simp⟩⟩
 simp only[hk,hb,bS,rpS]
 omega
def dtS (b w fr:List Int) (j:Nat) (n:Int):Int:=(n+b.getD j 0*w.getD (fr.getD j 0).toNat 0)%31
def dtN (b w fr:List Int):Int:=bH (dtS b w fr) fr.length 0 0
theorem YI (w fr:List Int) (n:Nat) (rows:List (List Int)) (g:Nat) (out:List Int) (i:Int) (b:List Int) (hl:fr.length≤1000) (hb:fr.length≤b.length) (h1:aA b=true) (h2:aA w=true) (hw:w.length=8) (hf:bC fr=true):
  aN none Tryz.prog 0 (.block 4 (.loop (a5 4 (a0 f136)))) (xK w fr n rows g out i b.length b 0 0) fun e t=>e=.normal∧t=HT w fr n rows g out i (dtN b w fr):=by
 refine aN.count (ro:=none) hT t55 bF (m:=0) (id:=4) (body:=a5 4 (a0 f136)) fr.length (fun _ x=>fok x=true) (fun j x=>xK w fr n rows g out i b.length b x j) (fun x=>HT w fr n rows g out i x) (dtS b w fr) (a6 f136 4) (a8 f136 4)
  (fun _ _=>[]) (fun _ _ _ _=>aK.nil) (fun j x hj h=>⟨c9 _, ?_⟩) (fun x h=>⟨_,_,⟨_,_,RO w fr n rows g out i b.length b x fr.length,by simp,by simp⟩⟩) 0 rfl
 have hs:=bN.1 (d8 hf hj)
 have e:=RN w fr n rows g out i b.length b x j
 rw[Int.toNat_natCast,sJ h (aT h1 j) (aT h2 _),aB (by omega) (by omega)]at e
 refine⟨_,_,⟨_,_,e, ?_,by simp⟩⟩
 simp only[bS,rpS]
 omega
def dlS (k:Int) (w fr:List Int) (i:Nat) (o:List Int):List Int:=o++[dtN (byD (rfL k fr) (unL i)) w fr]
def dlL (k:Int) (w fr:List Int):List Int:=bH (dlS k w fr) 4 0 []
theorem KY {i:Nat} (hi:i<4):(unL i).length=4∧aA (unL i)=true:=by
 refine⟨by simp[unL], ?_⟩
 match i,hi with
 |0,_|1,_|2,_|3,_=>rfl
theorem M7:a5 4 (a5 2 (a0 f136))=a5 4 (a0 f136):=by kernel_rfl
theorem YF (k:Int) (w fr:List Int) (hk:bet k 1 2=true) (hf:bC fr=true) (hl:fr.length≤8) (h2:aA w=true) (hw:w.length=8) (hb:cN (fun i=>Nat.ble fr.length (byD (rfL k fr) (unL i)).length) 4=true):
  aN none Tryz.prog 0 (.block 2 (.loop (a5 2 (a0 f136)))) (yW w fr (rfL k fr).length (rfL k fr) 0 [] 0) fun e t=>e=.normal∧t=ER 4 (dlL k w fr):=by
 obtain⟨r1,r2⟩:=O6 hk hf
 have hl4:(dlL k w fr).length=4:=aY (step:=dlS k w fr) (fun i o=>o.length=i) 4 [] rfl fun i o _ h=>by simp[dlS,h]
 have key:=aN.count (ro:=none) hT t55 bF (m:=0) (id:=2) (body:=a5 2 (a0 f136)) 4 (fun i o=>o.length=i) (fun i o=>yW w fr (rfL k fr).length (rfL k fr) o.length o i) (fun o=>ER o.length o) (dlS k w fr) (a6 f136 2) (a8 f136 2)
  (fun i o=>[(4,⟨a6 f136 4,xK w fr (rfL k fr).length (rfL k fr) o.length o i (byD (rfL k fr) (unL i)).length (byD (rfL k fr) (unL i)) 0 0,.normal,HT w fr (rfL k fr).length (rfL k fr) o.length o i (dtN (byD (rfL k fr) (unL i)) w fr)⟩)])
  (fun i o hi h=> ?_) (fun i o hi h=>⟨by simp[dlS,h], ?_⟩) (fun o h=>⟨_,_,⟨_,_,MQ w fr (rfL k fr).length (rfL k fr) o.length o (4:Nat),by simp,by simp⟩⟩) [] rfl
 ·have e:ER (bH (dlS k w fr) 4 0 []).length (bH (dlS k w fr) 4 0 [])=ER 4 (dlL k w fr):=by
   have:(bH (dlS k w fr) 4 0 []).length=4:=hl4
   rw[this];rfl
  rw[e]at key;exact key
 ·obtain⟨u1,u2⟩:=KY hi
  obtain⟨q1,q2⟩:=DX r2 u1 u2
  have hbi:=Nat.le_of_ble_eq_true (aX hb i hi)
  exact aK.cons (by kernel_rfl) (by rw[M7];exact YI w fr (rfL k fr).length (rfL k fr) o.length o i (byD (rfL k fr) (unL i)) (by omega) hbi q2 h2 hw hf) aK.nil
 ·obtain⟨u1,u2⟩:=KY hi
  have hbt:bet (i:Int) 0 3=true:=bN.2 ⟨by omega,by omega⟩
  have e:=RG w fr (rfL k fr).length (rfL k fr) o.length o i (dtN (byD (rfL k fr) (unL i)) w fr)
  rw[aB (by omega) (by omega)]at e
  unfold dlS
  rw[List.length_append]
  refine⟨_,_,⟨_,_,e, ?_,by simp⟩⟩
  simp only[hbt,u1,u2,r1,r2,bS,rpS]
  omega
def BJ:aM:=fun args h=>
 match args,h with
 |[.c (.int .i64 k),.c (.view _ (.ints .i64 w) n1 1 _),.c (.view _ (.ints .i64 fr) n2 1 _)],[]=>
  some (.c (.sl 0 0 4 1 none),[.live (.ints .i64 (dlL k w fr))],[bet k 1 2,bC fr,decide (fr.length≤8),aA w,decide (w.length=8),cN (fun i=>Nat.ble fr.length (byD (rfL k fr) (unL i)).length) 4])
 |_,_=>none
theorem a7F:aS Tryz.prog 207 BJ:=by
 intro args h res h' o hnorm he ho
 unfold BJ at he
 split at he
 case h_2=>cases he
 rename_i k nl w n1 cap nl2 fr n2 cap2
 simp only[Option.some.injEq,Prod.mk.injEq]at he
 obtain⟨rfl,rfl,rfl⟩:=he
 simp only[List.mem_cons,List.not_mem_nil,or_false,forall_eq_or_imp,forall_eq,decide_eq_true_eq]at ho
 obtain⟨o1,o2,o3,o4,o5,o6⟩:=ho
 simp only[b8,AV.norm,bA,aF.norm,Con.size,List.cons.injEq,AV.c.injEq,AV.agg.injEq,aF.view.injEq,aL,true_and,and_true]at hnorm
 obtain⟨⟨rfl,rfl,rfl⟩,rfl,rfl,rfl⟩:=hnorm
 exact mo (fn:=f136) t55 (V2 k w fr (rfL k fr) (dlL k w fr)) (by simp) (hlc:=(fun cc hcc=>aK.cons (c:=cc) (by cases hcc;kernel_rfl) (by cases hcc;exact a5Z k w fr o1 o2 (by omega)) (aK.cons (by cases hcc;kernel_rfl) (by cases hcc;exact YF k w fr o1 o2 o3 o4 o5 o6) aK.nil)))
noncomputable def T56:List aZ:=[⟨208,[],nm BL⟩,⟨207,[],nm BJ⟩]++T55
theorem e56:a7 Tryz.prog T56:=by
 refine a7.append ?_ e55
 intro e he
 simp only[List.mem_cons,List.not_mem_nil,or_false]at he
 rcases he with rfl|rfl
 ·exact a7G.ok
 ·exact a7F.ok
end
section
def okC (v:List Int) (out:List (List Int)):Bool:=decide (v.length≤274877906944)&&(decide (out.length≤1000)&&(iQ v.length out&&aA v))
theorem nW (m:List (List Int)) (f i:Nat) (out:List (List Int)):d5 m (f+1) i out=(okC (m.getD i []) out&&d5 m f (i+1) (gQ m i out)):=by
 rw[d5,okC]
theorem B4 (m:List (List Int)) (x:List (List Int)): ∀(f i:Nat) (out:List (List Int)),i+f≤m.length→d5 (m++x) f i out=d5 m f i out∧bH (gQ (m++x)) f i out=bH (gQ m) f i out:=by
 intro f
 induction f with
 |zero=>intro i out h;exact⟨by rw[d5,d5],by rw[bH,bH]⟩
 |succ f ih=>
  intro i out h
  have e:(m++x).getD i []=m.getD i []:=by
   rw[List.getD_eq_getElem?_getD,List.getD_eq_getElem?_getD,List.getElem?_append_left (by omega)]
  have et:gQ (m++x) i out=gQ m i out:=by unfold gQ;rw[e]
  obtain⟨i1,i2⟩:=ih (i+1) (gQ m i out) (by omega)
  refine⟨?_, ?_⟩
  ·rw[nW,nW,e,et,i1]
  ·rw[bH,bH,et,i2]
theorem nV (m:List (List Int)): ∀(f i:Nat) (out:List (List Int)),d5 m (f+1) i out=(d5 m f i out&&okC (m.getD (i+f) []) (bH (gQ m) f i out))∧bH (gQ m) (f+1) i out=gQ m (i+f) (bH (gQ m) f i out)
 |0,i,out=>by
  refine⟨?_,rfl⟩
  simp only[d5,Bool.and_true,rpS,Bool.true_and,Nat.add_zero,okC];rfl
 |f+1,i,out=>by
  obtain⟨i1,i2⟩:=nV m f (i+1) (gQ m i out)
  refine⟨?_, ?_⟩
  ·have e:d5 m (f+1+1) i out=((decide ((m.getD i []).length≤274877906944)&&(decide (out.length≤1000)&&(iQ (m.getD i []).length out&&aA (m.getD i []))))&&d5 m (f+1) (i+1) (gQ m i out)):=rfl
   have e2:d5 m (f+1) i out=((decide ((m.getD i []).length≤274877906944)&&(decide (out.length≤1000)&&(iQ (m.getD i []).length out&&aA (m.getD i []))))&&d5 m f (i+1) (gQ m i out)):=rfl
   have e3:bH (gQ m) (f+1) i out=bH (gQ m) f (i+1) (gQ m i out):=rfl
   rw[e,i1,e2,e3,show i+(f+1)=i+1+f from by omega]
   simp only[Bool.and_assoc]
  ·show bH (gQ m) (f+1) (i+1) (gQ m i out)=_
   rw[i2,show i+1+f=i+(f+1)from by omega];rfl
theorem B5 (m:List (List Int)) (v:List Int):eJ (m++[v])=(eJ m&&okC v (cJ m))∧cJ (m++[v])=jQ (cJ m) v:=by
 have hl:(m++[v]).length=m.length+1:=by simp
 obtain⟨s1,s2⟩:=nV (m++[v]) m.length 0 []
 obtain⟨a1,a2⟩:=B4 m [v] m.length 0 [] (by omega)
 have e:(m++[v]).getD (0+m.length) []=v:=by
  rw[Nat.zero_add,List.getD_eq_getElem?_getD,List.getElem?_append_right (Nat.le_refl _)];simp
 unfold eJ cJ
 rw[hl,s1,s2,a1,a2,e]
 refine⟨rfl, ?_⟩
 unfold gQ
 rw[e]
theorem DJ {m:List (List Int)} {n:Nat} (h:n<m.length):m.take (n+1)=m.take n++[m.getD n []]:=by
 rw[List.take_add_one,List.getD_eq_getElem?_getD,List.getElem?_eq_getElem h];rfl
def fsG (m:List (List Int)):Nat→Nat→List (List Int)→List Int→(List (List Int)→List Int→Bool)→Bool
 |0,_,t,o,k=>k t o
 |f+1,i,t,o,k=>(okC (m.getD i []) t&&decide ((m.getD i []).length≤1000))&&fLL (jQ t (m.getD i [])) fun t'=>bif Nat.beq t'.length t.length then fsG m f (i+1) t' o k else fsG m f (i+1) t' (o++[(i:Int)]) k
theorem zT (m:List (List Int)) (hm:m.length≤1000) (k:List (List Int)→List Int→Bool): ∀(f i:Nat) (o:List Int),i+f=m.length→eJ (m.take i)=true→fsG m f i (cJ (m.take i)) o k=true→
  (∀j,i≤j→j<m.length→lJ (m.take j) (m.getD j [])=true)∧eJ m=true∧k (cJ m) (bH (fsS m) f i o)=true
 |0,i,o,h,ht,hg=>by
  have e:m.take i=m:=List.take_of_length_le (by omega)
  rw[e]at ht hg
  exact⟨fun j h1 h2=>by omega,ht,hg⟩
 |f+1,i,o,h,ht,hg=>by
  have hi:i<m.length:=by omega
  simp only[fsG,k8,Bool.and_eq_true,rpS,decide_eq_true_eq]at hg
  obtain⟨⟨h1,h2⟩,h3⟩:=hg
  obtain⟨s1,s2⟩:=B5 (m.take i) (m.getD i [])
  rw[←DJ hi]at s1 s2
  have ht':eJ (m.take (i+1))=true:=by rw[s1,ht,h1];rfl
  have h1':=h1
  simp only[okC,Bool.and_eq_true,rpS,decide_eq_true_eq]at h1'
  have hh:lJ (m.take i) (m.getD i [])=true:=by
   simp only[lJ,Bool.and_eq_true,rpS,decide_eq_true_eq]
   exact⟨by rw[List.length_take];omega,ht,h2,h1'.2.1,h1'.2.2.1,h1'.2.2.2⟩
  have e:iJ (m.take i) (m.getD i [])=Nat.beq (jQ (cJ (m.take i)) (m.getD i [])).length (cJ (m.take i)).length:=by
   unfold iJ
   rw[Bool.eq_iff_iff,beq_iff_eq,Nat.beq_eq]
   omega
  have go: ∀o',fsG m f (i+1) (jQ (cJ (m.take i)) (m.getD i [])) o' k=true→fsS m i o=o'→(∀j,i≤j→j<m.length→lJ (m.take j) (m.getD j [])=true)∧eJ m=true∧k (cJ m) (bH (fsS m) (f+1) i o)=true:=fun o' hg he=>by
   rw[←s2]at hg
   obtain⟨r1,r2,r3⟩:=zT m hm k f (i+1) o' (by omega) ht' hg
   refine⟨fun j j1 j2=> ?_,r2, ?_⟩
   ·by_cases ej:j=i
    ·subst ej;exact hh
    ·exact r1 j (by omega) j2
   ·show k (cJ m) (bH (fsS m) f (i+1) (fsS m i o))=true
    rw[he];exact r3
  cases hb:Nat.beq (jQ (cJ (m.take i)) (m.getD i [])).length (cJ (m.take i)).length with
  |true=>rw[hb]at h3;exact go o h3 (by unfold fsS;rw[e,hb];rfl)
  |false=>rw[hb]at h3;exact go _ h3 (by unfold fsS;rw[e,hb];rfl)
def E5 (k:Int) (rows:List (List Int)) (i:Nat):Bool:=fL (byD rows (aH k i)) fun b=>Nat.beq b.length rows.length&&cN (fun q=>D4 (vB (fun j=>b.getD j 0*(rows.getD j []).getD q 0) rows.length-(aH k i).getD q 0)) 4
def okG (k:Int) (c:List Bool):Nat→Nat→List (List Int)→List (List Int)→(List (List Int)→Bool)→Bool
 |0,_,rows,t,K=>K rows
 |f+1,i,rows,t,K=>bif c.getD i false then((decide (rows.length≤1000)&&(okC (aH k i) t&&decide ((aH k i).length≤1000)))&&fLL (jQ t (aH k i)) fun t'=>bif Nat.beq t'.length t.length then E5 k rows i&&okG k c f (i+1) rows t K else okG k c f (i+1) (rows++[aH k i]) t' K)else okG k c f (i+1) rows t K
def zF (k:Int) (c:List Bool):Nat→Nat→List (List Int)→Bool
 |0,_,_=>true
 |f+1,i,rows=>(bif c.getD i false&&iJ rows (aH k i)then E5 k rows i else true)&&zF k c f (i+1) (rwT k c i rows)
theorem nJ (k:Int) (c:List Bool) (K:List (List Int)→Bool): ∀(f i:Nat) (rows:List (List Int)),eJ rows=true→okG k c f i rows (cJ rows) K=true→
  A8 k c f i rows=true∧zF k c f i rows=true∧K (bH (rwT k c) f i rows)=true
 |0,i,rows,ht,h=>⟨rfl,rfl,h⟩
 |f+1,i,rows,ht,h=>by
  simp only[okG,A8,zF]at h⊢
  have er:bH (rwT k c) (f+1) i rows=bH (rwT k c) f (i+1) (rwT k c i rows):=rfl
  rw[er]
  cases hc:c.getD i false with
  |false=>
   rw[hc,cond_false]at h
   have e:rwT k c i rows=rows:=by unfold rwT;rw[hc];rfl
   rw[e]
   simpa using nJ k c K f (i+1) rows ht h
  |true=>
   rw[hc,cond_true]at h
   simp only[k8,Bool.and_eq_true,rpS,decide_eq_true_eq]at h
   obtain⟨⟨h0,h1,h2⟩,h3⟩:=h
   have h1':=h1
   simp only[okC,Bool.and_eq_true,rpS,decide_eq_true_eq]at h1'
   have hh:lJ rows (aH k i)=true:=by
    simp only[lJ,Bool.and_eq_true,rpS,decide_eq_true_eq]
    exact⟨h0,ht,h2,h1'.2.1,h1'.2.2.1,h1'.2.2.2⟩
   have e:iJ rows (aH k i)=Nat.beq (jQ (cJ rows) (aH k i)).length (cJ rows).length:=by
    unfold iJ
    rw[Bool.eq_iff_iff,beq_iff_eq,Nat.beq_eq]
    omega
   obtain⟨s1,s2⟩:=B5 rows (aH k i)
   cases hb:Nat.beq (jQ (cJ rows) (aH k i)).length (cJ rows).length with
   |true=>
    rw[hb,cond_true,Bool.and_eq_true]at h3
    have er:rwT k c i rows=rows:=by unfold rwT;rw[hc,e,hb];rfl
    rw[er]
    obtain⟨r1,r2,r3⟩:=nJ k c K f (i+1) rows ht h3.2
    refine⟨by simp[hh,r1],by rw[e,hb];simp[h3.1,r2],r3⟩
   |false=>
    rw[hb,cond_false,←s2]at h3
    have er:rwT k c i rows=rows++[aH k i]:=by unfold rwT;rw[hc,e,hb];rfl
    rw[er]
    obtain⟨r1,r2,r3⟩:=nJ k c K f (i+1) (rows++[aH k i]) (by rw[s1,ht,h1];rfl) h3
    refine⟨by simp[hh,r1],by rw[e,hb];simp[r2],r3⟩
def F7 (k:Int):Nat→Nat→List (List Int)→List Int→(List Int→Bool)→Bool
 |0,_,t,T,K=>K T
 |f+1,i,t,T,K=>bif Nat.ble 4 T.length then K T else fLL (jQ t (aH k i)) fun t'=>bif Nat.beq t'.length t.length then F7 k f (i+1) t T K else F7 k f (i+1) t' (T++[(i:Int)]) K
theorem oM (k:Int) (K:List Int→Bool): ∀(f i:Nat) (t:List (List Int)) (T:List Int),F7 k f i t T K=true→ ∃X,K (T++X)=true∧(4≤T.length→X=[])
 |0,i,t,T,h=>⟨[],by simpa [F7]using h,fun _=>rfl⟩
 |f+1,i,t,T,h=>by
  simp only[F7,k8]at h
  cases hl:Nat.ble 4 T.length with
  |true=>rw[hl]at h;exact⟨[],by simpa using h,fun _=>rfl⟩
  |false=>
   have hn: ¬4≤T.length:=fun h'=>by rw[Nat.ble_eq_true_of_le h']at hl;cases hl
   rw[hl,cond_false]at h
   cases hb:Nat.beq (jQ t (aH k i)).length t.length with
   |true=>
    rw[hb]at h
    obtain⟨X,h1,h2⟩:=oM k K f (i+1) t T h
    exact⟨X,h1,h2⟩
   |false=>
    rw[hb]at h
    obtain⟨X,h1,h2⟩:=oM k K f (i+1) _ _ h
    exact⟨(i:Int)::X,by simpa using h1,fun h'=>absurd h' hn⟩
def dl (i j:Nat):Int:=bif Nat.beq i j then 1 else 0
def F1 (r:List Int):List Int:=bif bet (aV r) 0 3 then []else dW (r.drop 4) 30
def byG:Nat→Nat→List (List Int)→List Int→List Int→List Int→List Int→(List Int→List Int→List Int→List Int→Bool)→Bool
 |0,_,_,a,b,c,d,K=>K a b c d
 |f+1,i,rows,a,b,c,d,K=>match cD (byF rows i) rows.length 0 ()with
  |.inl _=>byG f (i+1) rows a b c d K
  |.inr j=>fLL (byK i j rows) fun rows'=>fL (nlL a (rows'.getD j [])) fun a'=>fL (nlL b (rows'.getD j [])) fun b'=>fL (nlL c (rows'.getD j [])) fun c'=>fL (nlL d (rows'.getD j [])) fun d'=>byG f (i+1) rows' a' b' c' d' K
theorem CN (K:List Int→List Int→List Int→List Int→Bool): ∀(f i:Nat) (rows:List (List Int)) (a b c d:List Int),byG f i rows a b c d K=K (bH byT f i (rows,a)).2 (bH byT f i (rows,b)).2 (bH byT f i (rows,c)).2 (bH byT f i (rows,d)).2
 |0,i,rows,a,b,c,d=>rfl
 |f+1,i,rows,a,b,c,d=>by
  have e: ∀x,bH byT (f+1) i (rows,x)=bH byT f (i+1) (byT i (rows,x)):=fun _=>rfl
  rw[e,e,e,e]
  unfold byG byT
  dsimp only
  cases cD (byF rows i) rows.length 0 ()with
  |inl _=>exact CN K f (i+1) rows a b c d
  |inr j=>simp only[mV,k8];exact CN K f (i+1) _ _ _ _ _
def byN (m:List (List Int)) (K:List (List Int)→Bool):Bool:=
 fLL (bwL m) fun rows=>byG 4 0 rows (unL 0++List.replicate m.length 0) (unL 1++List.replicate m.length 0) (unL 2++List.replicate m.length 0) (unL 3++List.replicate m.length 0) fun a b c d=>
  fL (F1 a) fun a=>fL (F1 b) fun b=>fL (F1 c) fun c=>fL (F1 d) fun d=>K [a,b,c,d]
theorem QO (m:List (List Int)) (K:List (List Int)→Bool):byN m K=K [byD m (unL 0),byD m (unL 1),byD m (unL 2),byD m (unL 3)]:=by
 have e: ∀v,byD m v=F1 (bH byT 4 0 (bwL m,v++List.replicate m.length 0)).2:=fun v=>by unfold byD F1 byE;rfl
 simp only[byN,mV,k8,CN,e]
def MB (k:Int) (T:List Int):Bool:=fLL (rfL k T) fun m=>byN m fun N=>Nat.beq T.length 4&&(bC T&&(cN (fun i=>Nat.beq (N.getD i []).length 4&&(cN (fun j=>D4 (vB (fun q=>(m.getD i []).getD q 0*(N.getD q []).getD j 0) 4-dl i j)) 4&&
 cN (fun q=>D4 (vB (fun j=>(N.getD i []).getD j 0*(m.getD j []).getD q 0) 4-dl i q)) 4)) 4))
def frF (c:List Bool) (fst:List Int):List Int:=bH (frS c fst) fst.length 0 []
def F4 (k:Int) (c:List Bool):Bool:=fLL (rwL k c) fun m=>decide (m.length≤1000)&&fsG m m.length 0 [] [] fun t fst=>Nat.beq fst.length t.length&&(Nat.ble fst.length 4&&(d7 fst (flg c).length&&fL (frF c fst) fun T=>
 okG k c 8 0 [] [] fun rows=>(rows==rfL k T)&&F7 k 8 0 t T fun T'=>fL T' fun T'=>MB k T'))
end
end Go.Proofs.YtdnfojanjejdgaaGreat.Am
