/- DERIVED. Part 12 of the proof: P5, C45, C46, C47, C48, C49, C50, C51, C52, P6. No statement of the program is proved here. -/
import Derived.Test.YthapjdpkelihiaaGreatX11
set_option linter.unusedSimpArgs false
set_option linter.unusedVariables false
set_option linter.unusedSectionVars false
namespace Go.Proofs.YthapjdpkelihiaaGreat.Am
section
theorem HA {k:Int} {c:List Bool} (hk:bet k 1 2=true) (hc:c.length=8):DF k (flg c) (spK k (flg c)).1 (spK k (flg c)).2.length=true∧DG (eH k z8 (flg c)) (spK k (flg c)).2.length=true∧DH k c (eH k z8 (flg c)) (spK k (flg c)).2.length=true:=
 H0 (P:=fun k c=>DF k (flg c) (spK k (flg c)).1 (spK k (flg c)).2.length=true∧DG (eH k z8 (flg c)) (spK k (flg c)).2.length=true∧DH k c (eH k z8 (flg c)) (spK k (flg c)).2.length=true) (f:=C1)
  (fun k c h=>HB h) Q2 Q3 Q4 Q5 hk hc
theorem C4 {n:Nat} {zs:List Int} (hz:zs.length=n*5) {i j:Nat} {at_:Int} (hj:j<n) (hi:i<n) (hij:j≠i) {p:Nat} (hp:p<n):
  (mY zs i at_ j).getD (p*5+4) 0=if p=j then(zs.getD (j*5+4) 0-zs.getD (i*5+4) 0*elC zs at_ j%31)%31 else zs.getD (p*5+4) 0:=by
 have r4: ∀p,p<n→(lJ zs i at_ j).getD (p*5+4) 0=zs.getD (p*5+4) 0:=fun p hp=>by
  unfold lJ JS
  rw[aU,if_neg (by omega),aU,if_neg (by omega),aU,if_neg (by omega),aU,if_neg (by omega)]
 have hl:(lJ zs i at_ j).length=zs.length:=by simp[lJ,JS]
 unfold mY
 by_cases e:p=j
 ·subst e
  rw[if_pos rfl,aU,if_pos ⟨rfl,by omega⟩,r4 p hp,r4 i hi]
 ·rw[if_neg e,aU,if_neg (by omega),r4 p hp]
def rW (n:Nat) (d zs:List Int):Prop:=zs.length=n*5∧ ∀j,j<n→zz (zs.getD (j*5+4) 0)=zz (zs.getD (j*5+0) 0)*zz (d.getD 0 0)+zz (zs.getD (j*5+1) 0)*zz (d.getD 1 0)+zz (zs.getD (j*5+2) 0)*zz (d.getD 2 0)+zz (zs.getD (j*5+3) 0)*zz (d.getD 3 0)
theorem rW.elim {n i j:Nat} {at_:Int} {d zs:List Int} (h:rW n d zs) (hi:i<n) (hj:j<n):rW n d (jM i at_ j zs):=by
 obtain⟨h1,h2⟩:=h
 unfold jM
 cases hb:((j:Int)!=(i:Int))&&(elC zs at_ j !=0)
 ·exact⟨h1,h2⟩
 ·have hij:j≠i:=by
   intro e;subst e;simp at hb
  rw[cond_true]
  refine⟨by rw[kT];exact h1,fun p hp=> ?_⟩
  rw[C4 h1 hj hi hij hp,gP h1 hj hp (by omega),gP h1 hj hp (by omega),gP h1 hj hp (by omega),gP h1 hj hp (by omega)]
  by_cases e:p=j
  ·subst e
   simp only[if_true]
   unfold elE
   simp only[mL,VS,kN,fY,a47,h2 p hp,h2 i hi]
   grind
  ·simp only[if_neg e]
   exact h2 p hp
theorem rW.red {n:Nat} {d:List Int}: ∀(f i:Nat) {zs:List Int},rW n d zs→i+f≤n→rW n d (bL (lF n) f i zs)
 |0,i,zs,h,_=>h
 |f+1,i,zs,h,hi=>by
  refine rW.red f (i+1) (zs:=lF n i zs) ?_ (by omega)
  exact bB (step:=jM i (ld5 zs i)) (fun _ z=>rW n d z) n zs h fun j z hj hz=>hz.elim (by omega) hj
theorem FF (w v ys:List Int) (r:Nat):(lT w v ys r).length=r*5∧ ∀j,j<r→(∀q,q<4→(lT w v ys r).getD (j*5+q) 0=ys.getD (j*12+q) 0)∧(lT w v ys r).getD (j*5+4) 0=AG w v (lG ys j):=by
 refine bB (step:=jP w v ys) (fun i zs=>zs.length=i*5∧ ∀j,j<i→(∀q,q<4→zs.getD (j*5+q) 0=ys.getD (j*12+q) 0)∧zs.getD (j*5+4) 0=AG w v (lG ys j)) r [] ⟨rfl,fun j hj=>by omega⟩ fun k zs hk h=> ?_
 obtain⟨h1,h2⟩:=h
 refine⟨by simp[jP,h1];omega,fun j hj=>⟨fun q hq=> ?_, ?_⟩⟩
 ·unfold jP
  rw[dV,h1]
  by_cases e:j*5+q<k*5
  ·rw[if_pos e];exact(h2 j (by omega)).1 q hq
  ·rw[if_neg e]
   have:j=k:=by omega
   subst this
   rw[show j*5+q-j*5=q from by omega]
   match q,hq with
   |0,_|1,_|2,_|3,_=>rfl
 ·unfold jP
  rw[dV,h1]
  by_cases e:j*5+4<k*5
  ·rw[if_pos e];exact(h2 j (by omega)).2
  ·rw[if_neg e]
   have:j=k:=by omega
   subst this
   rw[show j*5+4-j*5=4 from by omega]
   rfl
theorem JQ (ys:List Int) (i:Nat) {q:Nat} (hq:q<12):(lG ys i).getD q 0=ys.getD (i*12+q) 0:=by
 match q,hq with
 |0,_|1,_|2,_|3,_|4,_|5,_|6,_|7,_|8,_|9,_|10,_|11,_=>rfl
theorem zR (zs r:List Int): ∀n,(∀i,i<n→bet (ld5 zs i) 0 3=true)→(∀i,i<n→ ∀j,j<i→ld5 zs i≠ld5 zs j)→
  dz r (uI zs n)=dX (fun i=>zz (r.getD (ld5 zs i).toNat 0)*zz (zs.getD (i*5+4) 0)) n∧(uI zs n).length=4∧ ∀q:Nat,q<4→(∀i,i<n→ld5 zs i≠(q:Int))→(uI zs n).getD q 0=0
 |0,_,_=>⟨by
   show dz r [0,0,0,0]=0
   simp only[dz,List.getD_cons_zero,List.getD_cons_succ,lC];grind,rfl,fun q hq _=>by
   match q,hq with
   |0,_|1,_|2,_|3,_=>rfl⟩
 |n+1,hb,hd=>by
  obtain⟨i1,i2,i3⟩:=zR zs r n (fun i hi=>hb i (by omega)) (fun i hi j hj=>hd i (by omega) j hj)
  have e:uI zs (n+1)=(uI zs n).set (ld5 zs n).toNat (zs.getD (n*5+4) 0):=by
   have gen: ∀(f i:Nat) (o:List Int),bL (uJ zs) (f+1) i o=uJ zs (i+f) (bL (uJ zs) f i o):=by
    intro f
    induction f with
    |zero=>intro i o;rfl
    |succ f ih=>intro i o;have:=ih (i+1) (uJ zs i o);rw[show i+1+f=i+(f+1)from by omega]at this;exact this
   have:=gen n 0 [0,0,0,0]
   rw[Nat.zero_add]at this
   exact this
  have hbn:=aX.1 (hb n (by omega))
  have z:(uI zs n).getD (ld5 zs n).toNat 0=0:=i3 (ld5 zs n).toNat (by omega) fun i hi he=>hd n (by omega) i hi (by omega)
  rw[e]
  refine⟨?_,by rw[List.length_set];exact i2,fun q hq hn=> ?_⟩
  ·simp only[dX]
   rw[←i1]
   have hp:(ld5 zs n).toNat<4:=by omega
   revert z hp
   generalize (ld5 zs n).toNat=p
   generalize zs.getD (n*5+4) 0=x
   intro z hp
   simp only[dz,aU,i2]
   match p,hp with
   |0,_=>simp[-List.getD_eq_getElem?_getD];rw[z,lC];grind
   |1,_=>simp[-List.getD_eq_getElem?_getD];rw[z,lC];grind
   |2,_=>simp[-List.getD_eq_getElem?_getD];rw[z,lC];grind
   |3,_=>simp[-List.getD_eq_getElem?_getD];rw[z,lC];grind
  ·rw[aU,if_neg (by have:=hn n (by omega);omega)]
   exact i3 q hq fun i hi=>hn i (by omega)
theorem LF {k:Int} {w:List Int} {c:List Bool} {d:List Int} (hk:bet k 1 2=true) (hc:c.length=8) (h:Fit k w c d):Fit k w c (dN k w (flg c)):=by
 obtain⟨a1,a2,a3⟩:=HA hk hc
 obtain⟨so,re⟩:=tQ (w:=w) (w':=z8) (vY (w:=z8) hk hc)
 simp only[dP,Bool.and_eq_true,rpS]at so
 obtain⟨t1,t2⟩:=FF w (flg c) (spK k (flg c)).1 (spK k (flg c)).2.length
 have sp:=rJ hk (oT hc)
 have g0:rW (spK k (flg c)).2.length d (AC k w (flg c)):=by
  refine⟨t1,fun j hj=> ?_⟩
  obtain⟨u1,u2⟩:=t2 j hj
  unfold AC
  rw[u2,u1 0 (by omega),u1 1 (by omega),u1 2 (by omega),u1 3 (by omega),OJ]
  have e:dX (fun j'=>zz ((lG (spK k (flg c)).1 j).getD (j'+4) 0)*zz (w.getD ((flg c).getD j' 0).toNat 0)) (flg c).length=dX (fun j'=>zz ((spK k (flg c)).1.getD (j*12+(j'+4)) 0)*dz (aH k ((flg c).getD j' 0)) d) (flg c).length:=by
   refine dD fun i hi=> ?_
   have hl:=n7 c
   rw[JQ _ _ (by omega)]
   obtain⟨a,ha,hca,hg⟩:=rA hc hi
   rw[hg,Int.toNat_natCast,←h a ha hca,fZ]
  rw[e,nZ (flg c).length _ (fun j'=>aH k ((flg c).getD j' 0)) [(spK k (flg c)).1.getD (j*12+0) 0,(spK k (flg c)).1.getD (j*12+1) 0,(spK k (flg c)).1.getD (j*12+2) 0,(spK k (flg c)).1.getD (j*12+3) 0] d fun q hq=> ?_]
  ·rfl
  ·have:=kY (aV (aV a1 j hj) q hq)
   rw[i5]at this
   simp only[fY]at this
   rw[this]
   match q,hq with
   |0,_|1,_|2,_|3,_=>rfl
 have g1:rW (spK k (flg c)).2.length d (eH k w (flg c)):=rW.red _ 0 g0 (by omega)
 intro a ha hca
 refine pQ (g9 _ _ _) (by rw[←h a ha hca];exact g9 _ _ _) ?_
 rw[fZ,←h a ha hca,fZ]
 have ld: ∀i,i<(spK k (flg c)).2.length→ld5 (eH k w (flg c)) i=ld5 (eH k z8 (flg c)) i:=fun i hi=>re.ld hi
 obtain⟨o1,-,-⟩:=zR (eH k w (flg c)) (aH k a) (spK k (flg c)).2.length (fun i hi=>aV so.2 i hi) (fun i hi j hj=>by
  have:=aV (aV a2 i hi) j hj
  rw[ld i hi,ld j (by omega)]
  simpa using this)
 unfold dN
 rw[o1]
 have e:dX (fun i=>zz ((aH k a).getD (ld5 (eH k w (flg c)) i).toNat 0)*zz ((eH k w (flg c)).getD (i*5+4) 0)) (spK k (flg c)).2.length=
   dX (fun i=>zz ((aH k a).getD (ld5 (eH k z8 (flg c)) i).toNat 0)*dz [(eH k z8 (flg c)).getD (i*5+0) 0,(eH k z8 (flg c)).getD (i*5+1) 0,(eH k z8 (flg c)).getD (i*5+2) 0,(eH k z8 (flg c)).getD (i*5+3) 0] d) (spK k (flg c)).2.length:=by
  refine dD fun i hi=> ?_
  rw[ld i hi,g1.2 i hi,re.2.2 i hi 0 (by omega),re.2.2 i hi 1 (by omega),re.2.2 i hi 2 (by omega),re.2.2 i hi 3 (by omega)]
  rfl
 rw[e]
 refine nZ _ _ (fun i=>[(eH k z8 (flg c)).getD (i*5+0) 0,(eH k z8 (flg c)).getD (i*5+1) 0,(eH k z8 (flg c)).getD (i*5+2) 0,(eH k z8 (flg c)).getD (i*5+3) 0]) _ d fun q hq=> ?_
 have h3:=aV a3 a ha
 rw[hca,Bool.not_true,Bool.false_or]at h3
 have:=kY (aV h3 q hq)
 rw[i5]at this
 simp only[fY]at this
 rw[←this]
 refine dD fun i hi=> ?_
 match q,hq with
 |0,_|1,_|2,_|3,_=>rfl
theorem gA {k:Int} {w:List Int} {c:List Bool} {d:List Int} (hk:bet k 1 2=true) (hc:c.length=8) (h:Fit k w c d):cE k w (flg c)=true:=(k8 hc).2 (LF hk hc h)
end
section
noncomputable def T51:List bD:=[⟨54,[],fJ tt (a9 T50) Tryz.f54 []⟩]++T50
theorem e51:a6 Tryz.prog T51:=by
 refine a6.append ?_ e50
 intro e he
 simp only[List.mem_cons,List.not_mem_nil,or_false]at he
 subst he;exact HW
theorem t51:bJ Tryz.prog (a9 T51):=aM e51
noncomputable abbrev f105:=Tryz.f115
noncomputable def u0 (k:Int) (a b:List Int) (c:List Bool) (x:Int) (n:Nat) (out:List Bool) (i:Int):St:=
 aY f105.ntmps [(1,.c (.int .i64 x)),(2,.c (.ptr 0 0 0 0)),(5,.c (.sl 1 0 n 1 none)),(6,.c (.int .i64 i))] [.live (.cells [.int .i64 k,.view none (.ints .i64 a) a.length 1 none,.view none (.ints .i64 b) b.length 1 none,.view none (.bools c) c.length 1 none]),.live (.bools out)]
noncomputable def KC (n:Nat) (out:List Bool):St:=aY f105.ntmps [(5,.c (.sl 0 0 n 1 none))] [.live (.bools out)]
theorem R6 (k:Int) (a b:List Int) (c:List Bool) (x:Int) (n:Nat) (out:List Bool) (i:Int):aC 0 (a8 f105 0) (aA f105 0) (aG tt (a9 T51) ([]) 0 100 (a0 0 (a5 f105)) (u0 k a b c x n out i) [(0,true),(0,true)])=
  some (.normal,(decide (i<(↑c.length:Int))&&(decide (0≤i)&&(decide (i<(↑c.length:Int))&&(decide (i.toNat<c.length)&&(rp4 (c.getD i.toNat false) (decide (0≤i)&&(decide (i<(↑b.length:Int))&&((c.getD i.toNat false)&&(decide (i.toNat<b.length)&&(rp2 (c.getD i.toNat false) (decide (n=out.length)&&((decide (n+1≤274877906944))&&true)))))))))))),[],u0 k a b c x (n+1) (out++[bif c.getD i.toNat false then b.getD i.toNat 0==x else false]) (IntKind.i64.wrap (i+1))):=by kernel_rfl
theorem R7 (k:Int) (a b:List Int) (c:List Bool) (x:Int) (n:Nat) (out:List Bool) (i:Int):aC 0 (a8 f105 0) (aA f105 0) (aG tt (a9 T51) ([]) 0 100 (a0 0 (a5 f105)) (u0 k a b c x n out i) [(0,true),(0,false)])=
  some (.normal,(decide (i<(↑c.length:Int))&&(decide (0≤i)&&(decide (i<(↑c.length:Int))&&(decide (i.toNat<c.length)&&(rp8 (!c.getD i.toNat false) (decide (n=out.length)&&((decide (n+1≤274877906944))&&true))))))),[],u0 k a b c x (n+1) (out++[false]) (IntKind.i64.wrap (i+1))):=by kernel_rfl
theorem R8 (k:Int) (a b:List Int) (c:List Bool) (x:Int) (n:Nat) (out:List Bool) (i:Int):aC 0 (a8 f105 0) (aA f105 0) (aG tt (a9 T51) ([]) 0 100 (a0 0 (a5 f105)) (u0 k a b c x n out i) [(0,false)])=
  some (.exit 0,((!decide (i<(↑c.length:Int)))&&true),[],KC (n) (out)):=by kernel_rfl
noncomputable abbrev f58:=Tryz.f60
noncomputable def I58 (k:Int) (a b:List Int) (c:List Bool) (n i:Int):St:=aY f58.ntmps [(1,.c (.ptr 0 0 0 0)),(3,.c (.int .i64 n)),(4,.c (.int .i64 i))] [.live (.cells [.int .i64 k,.view none (.ints .i64 a) a.length 1 none,.view none (.ints .i64 b) b.length 1 none,.view none (.bools c) c.length 1 none])]
noncomputable def X58 (n:Int):St:=aY f58.ntmps [(3,.c (.int .i64 n))] []
theorem YQ (k:Int) (a b:List Int) (c:List Bool) (n i:Int):aC 0 (a8 f58 0) (aA f58 0) (aG tt (a9 T51) ([]) 0 100 (a0 0 (a5 f58)) (I58 k a b c n i) [(0,true)])=
  some (.normal,(decide (i<(↑b.length:Int))&&(decide (0≤i)&&(decide (i<(↑b.length:Int))&&((decide (i.toNat<b.length))&&true)))),[],I58 k a b c (if b.getD i.toNat 0>n then b.getD i.toNat 0 else n) (IntKind.i64.wrap (i+1))):=by kernel_rfl
theorem YR (k:Int) (a b:List Int) (c:List Bool) (n i:Int):aC 0 (a8 f58 0) (aA f58 0) (aG tt (a9 T51) ([]) 0 100 (a0 0 (a5 f58)) (I58 k a b c n i) [(0,false)])=
  some (.exit 0,((!decide (i<(↑b.length:Int)))&&true),[],X58 (n)):=by kernel_rfl
noncomputable abbrev f55:=Tryz.f57
noncomputable def I55 (v:List Int) (c:List Bool) (i:Int):St:=aY f55.ntmps [(0,.c (.view none (.ints .i64 v) v.length 1 none)),(1,.c (.view none (.bools c) c.length 1 none)),(5,.c (.int .i64 i))] []
noncomputable def X55 (v:List Int) (c:List Bool):St:=aY f55.ntmps [(0,.c (.view none (.ints .i64 v) v.length 1 none)),(1,.c (.view none (.bools c) c.length 1 none))] []
noncomputable def Y55 (v:List Int) (c:List Bool):St:=aY f55.ntmps [(0,.c (.view none (.ints .i64 v) v.length 1 none)),(1,.c (.view none (.bools c) c.length 1 none)),(4,.c (.bool false))] []
theorem YB (v:List Int) (c:List Bool) (i:Int):aC 0 (a8 f55 0) (aA f55 0) (aG tt (a9 T51) ([]) 0 100 (a0 0 (a5 f55)) (I55 v c i) [(0,true),(0,true)])=
  some (.ret,(decide (i<(↑v.length:Int))&&(decide (0≤i)&&(decide (i<(↑v.length:Int))&&(decide (i.toNat<v.length)&&((!fok (v.getD i.toNat 0))&&true))))),[],Y55 v c):=by kernel_rfl
theorem YC (v:List Int) (c:List Bool) (i:Int):aC 0 (a8 f55 0) (aA f55 0) (aG tt (a9 T51) ([]) 0 100 (a0 0 (a5 f55)) (I55 v c i) [(0,true),(0,false)])=
  some (.normal,(decide (i<(↑v.length:Int))&&(decide (0≤i)&&(decide (i<(↑v.length:Int))&&(decide (i.toNat<v.length)&&((!!fok (v.getD i.toNat 0))&&true))))),[],I55 v c (IntKind.i64.wrap (i+1))):=by kernel_rfl
theorem YD (v:List Int) (c:List Bool) (i:Int):aC 0 (a8 f55 0) (aA f55 0) (aG tt (a9 T51) ([]) 0 100 (a0 0 (a5 f55)) (I55 v c i) [(0,false)])=
  some (.exit 0,((!decide (i<(↑v.length:Int)))&&true),[],X55 v c):=by kernel_rfl
theorem a21 (k:Int) (a b:List Int) (c:List Bool) (on:Bool) (kd:Int) (d:List Int) (vs:Int):aD tt (a9 T51) ([]) 100 Tryz.f53 [.agg [.int .i64 k,.view none (.ints .i64 a) a.length 1 none,.view none (.ints .i64 b) b.length 1 none,.view none (.bools c) c.length 1 none,.bool on,.int .i64 kd,.view none (.ints .i64 d) d.length 1 none,.int .i64 vs]] [] []=
  some ⟨.agg [.int .i64 k,.sl 0 0 a.length 1 none,.sl 1 0 b.length 1 none,.sl 2 0 c.length 1 none,.bool on,.int .i64 kd,.sl 3 0 (0+d.length) 1 none,.int .i64 vs],[.live (.ints .i64 a),.live (.ints .i64 b),.live (.bools c),.live (.ints .i64 ([]++d))],(decide (a.length≤274877906944)&&(decide (b.length≤274877906944)&&(decide (c.length≤274877906944)&&((decide (0+d.length≤274877906944))&&true)))),[]⟩:=by kernel_rfl
def wE:aN:=fun args h=>
 match args,h with
 |[.agg [.int .i64 k,.view _ (.ints .i64 a) n1 1 _,.view _ (.ints .i64 b) n2 1 _,.view _ (.bools c) n3 1 _,.bool on,.int .i64 kd,.view _ (.ints .i64 d) n4 1 _,.int .i64 vs]],[]=>
  some (.agg [.int .i64 k,.sl 0 0 a.length 1 none,.sl 1 0 b.length 1 none,.sl 2 0 c.length 1 none,.bool on,.int .i64 kd,.sl 3 0 d.length 1 none,.int .i64 vs],[.live (.ints .i64 a),.live (.ints .i64 b),.live (.bools c),.live (.ints .i64 d)],[decide (a.length≤274877906944),decide (b.length≤274877906944),decide (c.length≤274877906944),decide (d.length≤274877906944)])
 |_,_=>none
theorem m51:aT Tryz.prog 53 wE:=by
 intro args h res h' o hnorm he ho
 unfold wE at he
 split at he
 case h_2=>cases he
 rename_i k nl1 a n1 cap1 nl2 b n2 cap2 nl3 c n3 cap3 on kd nl4 d n4 cap4 vs
 simp only[Option.some.injEq,Prod.mk.injEq]at he
 obtain⟨rfl,rfl,rfl⟩:=he
 simp only[List.mem_cons,List.not_mem_nil,or_false,forall_eq_or_imp,forall_eq,decide_eq_true_eq]at ho
 obtain⟨o1,o2,o3,o4⟩:=ho
 simp only[bE,AV.norm,bF,aF.norm,Con.size,List.cons.injEq,AV.c.injEq,AV.agg.injEq,aF.view.injEq,aL,true_and,and_true]at hnorm
 obtain⟨⟨rfl,rfl,rfl⟩,⟨rfl,rfl,rfl⟩,⟨rfl,rfl,rfl⟩,rfl,rfl,rfl⟩:=hnorm
 have e:=a21 k a b c on kd d vs
 simp only[Nat.zero_add]at e
 exact mo t51 e (by simp[o1,o2,o3,o4])
theorem CS {v:List Bool} {n:Nat} (h:n<v.length):v.take (n+1)=v.take n++[v.getD n false]:=by
 rw[List.take_add_one,List.getD_eq_getElem?_getD,List.getElem?_eq_getElem h];rfl
def ofS (b:List Int) (c:List Bool) (x:Int) (i:Nat) (o:List Bool):List Bool:=o++[bif c.getD i false then b.getD i 0==x else false]
theorem LW (b:List Int) (c:List Bool) (x:Int):bL (ofS b c x) c.length 0 []=aR b c x:=by
 have h:=bB (step:=ofS b c x) (fun i o=>o=(aR b c x).take i) c.length [] (by simp) fun i o hi h=>by
  subst h
  unfold ofS
  rw[CS (by rw[bP];exact hi),eF b c x i hi]
  congr 2
  cases c.getD i false<;>simp[bne]
 rw[h,←bP b c x,List.take_length]
theorem a4F (k:Int) (a b:List Int) (c:List Bool) (x:Int) (hc:c.length≤274877906944) (hb:b.length=c.length):
  aS Tryz.prog 0 (.block 0 (.loop (a0 0 (a5 f105)))) (u0 k a b c x 0 [] 0) fun e t=>e=.normal∧t=KC c.length (aR b c x):=by
 have key:=aS.count hT t51 bK (m:=0) (id:=0) (body:=a0 0 (a5 f105)) c.length (fun i o=>o.length=i) (fun i o=>u0 k a b c x o.length o i) (fun o=>KC o.length o) (ofS b c x) (a8 f105 0) (aA f105 0)
  (fun _ _=>[]) (fun _ _ _ _=>aI.nil) (fun i o hi h=>⟨by simp[ofS,h], ?_⟩) (fun o h=>⟨_,_,⟨_,_,R8 k a b c x o.length o c.length,by simp,by simp⟩⟩) [] rfl
 ·rw[LW,bP]at key;exact key
 ·unfold ofS
  rw[List.length_append]
  cases hq:c.getD i false with
  |true=>
   have e:=R6 k a b c x o.length o i
   rw[aB (by omega) (by omega),Int.toNat_natCast,hq]at e
   refine⟨_,_,⟨_,_,e, ?_,by simp⟩⟩
   simp only[hq,bS,rpS]
   omega
  |false=>
   have e:=R7 k a b c x o.length o i
   rw[aB (by omega) (by omega),Int.toNat_natCast]at e
   refine⟨_,_,⟨_,_,e, ?_,by simp⟩⟩
   simp only[hq,bS,rpS]
   omega
theorem TH (k:Int) (a b:List Int) (c:List Bool) (x:Int):aD tt (a9 T51) ([(0,⟨a8 f105 0,u0 k a b c x 0 [] 0,.normal,KC c.length (aR b c x)⟩)]) 100 f105 [.agg [.int .i64 k,.view none (.ints .i64 a) a.length 1 none,.view none (.ints .i64 b) b.length 1 none,.view none (.bools c) c.length 1 none],.c (.int .i64 x)] [] []=
  some ⟨.c (.sl 0 0 c.length 1 none),[.live (.bools (aR b c x))],true,[u0 k a b c x 0 [] 0=u0 k a b c x 0 [] 0]⟩:=by kernel_rfl
def GB:aN:=fun args h=>
 match args,h with
 |[.agg [.int .i64 k,.view _ (.ints .i64 a) n1 1 _,.view _ (.ints .i64 b) n2 1 _,.view _ (.bools c) n3 1 _],.c (.int .i64 x)],[]=>
  some (.c (.sl 0 0 c.length 1 none),[.live (.bools (aR b c x))],[decide (c.length≤274877906944),decide (b.length=c.length)])
 |_,_=>none
theorem a56:aT Tryz.prog 115 GB:=by
 intro args h res h' o hnorm he ho
 unfold GB at he
 split at he
 case h_2=>cases he
 rename_i k nl1 a n1 cap1 nl2 b n2 cap2 nl3 c n3 cap3 x
 simp only[Option.some.injEq,Prod.mk.injEq]at he
 obtain⟨rfl,rfl,rfl⟩:=he
 simp only[List.mem_cons,List.not_mem_nil,or_false,forall_eq_or_imp,forall_eq,decide_eq_true_eq]at ho
 obtain⟨o1,o2⟩:=ho
 simp only[bE,AV.norm,bF,aF.norm,Con.size,List.cons.injEq,AV.c.injEq,AV.agg.injEq,aF.view.injEq,aL,true_and,and_true]at hnorm
 obtain⟨⟨rfl,rfl,rfl⟩,⟨rfl,rfl,rfl⟩,rfl,rfl,rfl⟩:=hnorm
 exact mo (fn:=f105) t51 (TH k a b c x) (by simp) (hlc:=(fun cc hcc=>aI.cons (c:=cc) (by cases hcc;kernel_rfl) (by cases hcc;exact a4F k a b c x o1 o2) aI.nil))
def mxS (b:List Int) (i:Nat) (n:Int):Int:=if b.getD i 0>n then b.getD i 0 else n
def mxL (b:List Int):Int:=bL (mxS b) b.length 0 0
theorem l58 (k:Int) (a b:List Int) (c:List Bool) (hb:b.length≤274877906944):
  aS Tryz.prog 0 (.block 0 (.loop (a0 0 (a5 f58)))) (I58 k a b c 0 0) fun e t=>e=.normal∧t=X58 (mxL b):=by
 refine aS.count hT t51 bK (m:=0) (id:=0) (body:=a0 0 (a5 f58)) b.length (fun _ _=>True) (fun i n=>I58 k a b c n i) X58 (mxS b) (a8 f58 0) (aA f58 0)
  (fun _ _=>[]) (fun _ _ _ _=>aI.nil) (fun i n hi h=>⟨trivial, ?_⟩) (fun n h=>⟨_,_,⟨_,_,YR k a b c n b.length,by simp,by simp⟩⟩) 0 trivial
 have e:=YQ k a b c n i
 rw[aB (by omega) (by omega),Int.toNat_natCast]at e
 refine⟨_,_,⟨_,_,e, ?_,by simp⟩⟩
 simp only[bS,rpS]
 omega
theorem a29 (k:Int) (a b:List Int) (c:List Bool):aD tt (a9 T51) ([(0,⟨a8 f58 0,I58 k a b c 0 0,.normal,X58 (mxL b)⟩)]) 100 f58 [.agg [.int .i64 k,.view none (.ints .i64 a) a.length 1 none,.view none (.ints .i64 b) b.length 1 none,.view none (.bools c) c.length 1 none]] [] []=
  some ⟨.c (.int .i64 (mxL b)),[],true,[I58 k a b c 0 0=I58 k a b c 0 0]⟩:=by kernel_rfl
def P5:aN:=fun args h=>
 match args,h with
 |[.agg [.int .i64 k,.view _ (.ints .i64 a) n1 1 _,.view _ (.ints .i64 b) n2 1 _,.view _ (.bools c) n3 1 _]],[]=>
  some (.c (.int .i64 (mxL b)),[],[decide (b.length≤274877906944)])
 |_,_=>none
theorem m58:aT Tryz.prog 60 P5:=by
 intro args h res h' o hnorm he ho
 unfold P5 at he
 split at he
 case h_2=>cases he
 rename_i k nl1 a n1 cap1 nl2 b n2 cap2 nl3 c n3 cap3
 simp only[Option.some.injEq,Prod.mk.injEq]at he
 obtain⟨rfl,rfl,rfl⟩:=he
 simp only[List.mem_cons,List.not_mem_nil,or_false,forall_eq_or_imp,forall_eq,decide_eq_true_eq]at ho
 have o1:=ho
 simp only[bE,AV.norm,bF,aF.norm,Con.size,List.cons.injEq,AV.c.injEq,AV.agg.injEq,aF.view.injEq,aL,true_and,and_true]at hnorm
 obtain⟨⟨rfl,rfl,rfl⟩,⟨rfl,rfl,rfl⟩,rfl,rfl,rfl⟩:=hnorm
 exact mo (fn:=f58) t51 (a29 k a b c) (by simp) (hlc:=(fun cc hcc=>aI.cons (c:=cc) (by cases hcc;kernel_rfl) (by cases hcc;exact l58 k a b c o1) aI.nil))
theorem H2 (v:List Int):c9 (fun i=>fok (v.getD i 0)) v.length 0=a7 v:=by
 rw[Bool.eq_iff_iff,bX]
 constructor
 ·intro h
  simp only[a7,List.all_eq_true]
  intro x hx
  obtain⟨i,hi⟩:=List.getElem?_of_mem hx
  have hlt:=(List.getElem?_eq_some_iff.1 hi).1
  have:=h i (by omega) (by omega)
  rw[List.getD_eq_getElem?_getD,hi]at this
  exact this
 ·intro h i _ _;exact aO h i
theorem l55 (v:List Int) (c:List Bool) (hv:v.length≤274877906944):
  aS Tryz.prog 0 (.block 0 (.loop (a0 0 (a5 f55)))) (I55 v c 0) fun e t=>e=(bif a7 v then .normal else .ret)∧t=bif a7 v then X55 v c else Y55 v c:=by
 have key:=aS.all hT t51 bK (m:=0) (id:=0) (body:=a0 0 (a5 f55)) v.length (fun i=>fok (v.getD i 0)) (fun i=>I55 v c i) (X55 v c) (Y55 v c) .ret (.inr rfl) (a8 f55 0) (aA f55 0) (fun _=>[]) (fun _ _=>aI.nil) (fun i hi h=> ?_) (fun i hi h=> ?_)
  ⟨_,_,⟨_,_,YD v c v.length,by simp,by simp⟩⟩
 ·rw[H2]at key;exact key
 ·have e:=YC v c i
  rw[aB (by omega) (by omega),Int.toNat_natCast]at e
  refine⟨_,_,⟨_,_,e, ?_,by simp⟩⟩
  simp only[h,bS,rpS]
  omega
 ·have e:=YB v c i
  rw[Int.toNat_natCast]at e
  rw[if_neg (by intro h;cases h)]
  refine⟨_,_,⟨_,_,e, ?_,by simp⟩⟩
  simp only[h,bS,rpS]
  omega
theorem a22 (v:List Int) (c:List Bool):aD tt (a9 T51) ([(0,⟨a8 f55 0,I55 v c 0,.normal,X55 v c⟩)]) 100 f55 [.c (.view none (.ints .i64 v) v.length 1 none),.c (.view none (.bools c) c.length 1 none)] [] [(0,true)]=
  some ⟨.c (.bool (bif (↑v.length:Int)==8 then(↑c.length:Int)==8 else false)),[],(rp3 ((↑v.length:Int)==8) true),[I55 v c 0=I55 v c 0]⟩:=by kernel_rfl
theorem a23 (v:List Int) (c:List Bool):aD tt (a9 T51) ([(0,⟨a8 f55 0,I55 v c 0,.normal,X55 v c⟩)]) 100 f55 [.c (.view none (.ints .i64 v) v.length 1 none),.c (.view none (.bools c) c.length 1 none)] [] [(0,false)]=
  some ⟨.c (.bool false),[],(rp4 (!(↑v.length:Int)==8) true),[I55 v c 0=I55 v c 0]⟩:=by kernel_rfl
theorem V7 (v:List Int) (c:List Bool):aD tt (a9 T51) ([(0,⟨a8 f55 0,I55 v c 0,.ret,Y55 v c⟩)]) 100 f55 [.c (.view none (.ints .i64 v) v.length 1 none),.c (.view none (.bools c) c.length 1 none)] [] []=
  some ⟨.c (.bool false),[],true,[I55 v c 0=I55 v c 0]⟩:=by kernel_rfl
end
section
def bZ (v:List Int) (c:List Bool):Bool:=a7 v&&(((v.length:Int)==8)&&((c.length:Int)==8))
def BO:aN:=fun args h=>
 match args,h with
 |[.c (.view _ (.ints .i64 v) n 1 _),.c (.view _ (.bools c) n2 1 _)],[]=>
  some (.c (.bool (bZ v c)),[],[decide (v.length≤274877906944)])
 |_,_=>none
theorem m55:aT Tryz.prog 57 BO:=by
 intro args h res h' o hnorm he ho
 unfold BO at he
 split at he
 case h_2=>cases he
 rename_i nl v n cap nl2 c n2 cap2
 simp only[Option.some.injEq,Prod.mk.injEq]at he
 obtain⟨rfl,rfl,rfl⟩:=he
 simp only[List.mem_cons,List.not_mem_nil,or_false,forall_eq_or_imp,forall_eq,decide_eq_true_eq]at ho
 have o1:=ho
 simp only[bE,AV.norm,bF,aF.norm,Con.size,List.cons.injEq,AV.c.injEq,AV.agg.injEq,aF.view.injEq,aL,true_and,and_true]at hnorm
 obtain⟨⟨rfl,rfl,rfl⟩,rfl,rfl,rfl⟩:=hnorm
 have g:=l55 v c o1
 unfold bZ
 cases hf:a7 v with
 |false=>
  rw[hf]at g
  exact mo (fn:=f55) t51 (V7 v c) (by simp) (hlc:=(fun cc hcc=>aI.cons (c:=cc) (by cases hcc;kernel_rfl) (by cases hcc;exact g) aI.nil))
 |true=>
  rw[hf]at g
  cases hv:(v.length:Int)==8 with
  |true=>
   have e:=a22 v c
   rw[hv]at e
   exact mo (fn:=f55) t51 e rfl (hlc:=(fun cc hcc=>aI.cons (c:=cc) (by cases hcc;kernel_rfl) (by cases hcc;exact g) aI.nil))
  |false=>exact mo (fn:=f55) t51 (a23 v c) (by rw[hv];rfl) (hlc:=(fun cc hcc=>aI.cons (c:=cc) (by cases hcc;kernel_rfl) (by cases hcc;exact g) aI.nil))
def cbB (k:Int) (c:List Bool):Bool:=bet k 1 2&&(((c.length:Int)==8)&&bO k (flg c))
def OY:aN:=fun args h=>
 match args,h with
 |[.c (.int .i64 k),.c (.view _ (.bools c) n 1 _)],[]=>
  some (.c (.bool (cbB k c)),[],[])
 |_,_=>none
theorem a57:aT Tryz.prog 114 OY:=by
 intro args h res h' o hnorm he ho
 unfold OY at he
 split at he
 case h_2=>cases he
 rename_i k nl c n cap
 simp only[Option.some.injEq,Prod.mk.injEq]at he
 obtain⟨rfl,rfl,rfl⟩:=he
 simp only[bE,AV.norm,bF,aF.norm,Con.size,List.cons.injEq,AV.c.injEq,AV.agg.injEq,aF.view.injEq,aL,true_and,and_true]at hnorm
 obtain⟨rfl,rfl,rfl⟩:=hnorm
 unfold cbB
 cases h1:bet k 1 2 with
 |false=>exact mo t50 (TL k c) (by simp[h1])
 |true=>
  cases h2:(c.length:Int)==8 with
  |false=>exact mo t50 (TK k c) (by rw[h1,h2];rfl)
  |true=>
   have hc:c.length=8:=by simp only[beq_iff_eq]at h2;omega
   obtain⟨p1,p2,p3,p4⟩:=yS h1 hc
   have hl:(rwL k c).length≤8:=bB (step:=rwS k c) (fun i o=>o.length≤i) 8 [] (by simp) fun i o _ h=>by
    unfold rwS
    cases c.getD i false
    ·rw[cond_false];omega
    ·simp;omega
   have e:=TJ k c
   rw[h1,h2]at e
   simp only[cond_true,p4]at e
   exact mo t50 e (by simp only[h1,hc,p1,decide_true,bS,rpS];omega)
noncomputable def T52:List bD:=[⟨115,[],nm GB⟩,⟨60,[],nm P5⟩,⟨57,[],nm BO⟩,⟨53,[],nm wE⟩,⟨114,[],nm OY⟩]++T51
theorem e52:a6 Tryz.prog T52:=by
 refine a6.append ?_ e51
 intro e he
 simp only[List.mem_cons,List.not_mem_nil,or_false]at he
 rcases he with rfl|rfl|rfl|rfl|rfl
 ·exact a56.ok
 ·exact m58.ok
 ·exact m55.ok
 ·exact m51.ok
 ·exact a57.ok
theorem t52:bJ Tryz.prog (a9 T52):=aM e52
end
section
noncomputable abbrev f133:=Tryz.f161
noncomputable def qQ (m:List (List Int)) (v:List Int) (n:Nat) (rows:List (List Int)) (i:Int):St:=
 aY f133.ntmps [(0,.c (.view none (.ivs .i64 m) m.length 1 none)),(1,.c (.view none (.ints .i64 v) v.length 1 none)),(6,.c (.sl 0 0 n 1 none)),(7,.c (.int .i64 i))] [.live (.ivs .i64 rows)]
noncomputable def E5 (m:List (List Int)) (v:List Int) (n:Nat) (rows:List (List Int)):St:=
 aY f133.ntmps [(0,.c (.view none (.ivs .i64 m) m.length 1 none)),(1,.c (.view none (.ints .i64 v) v.length 1 none)),(6,.c (.sl 0 0 n 1 none))] [.live (.ivs .i64 rows)]
theorem RL (m:List (List Int)) (v:List Int) (n:Nat) (rows:List (List Int)) (i:Int):aC 0 (a8 f133 0) (aA f133 0) (aG tt (a9 T52) ([]) 0 100 (a0 0 (a5 f133)) (qQ m v n rows i) [(0,true)])=
  some (.normal,(decide (i<(↑m.length:Int))&&(decide ((↑m.length:Int)≤(↑m.length:Int))&&(decide ((↑m.length:Int)≤274877906944)&&(decide (0≤i)&&(decide (i<(↑(↑m.length:Int).toNat:Int))&&(decide (i.toNat<(List.replicate m.length (0:Int)).length)&&(decide (0≤i)&&(decide (i<(↑m.length:Int))&&(decide (i.toNat<m.length)&&(decide (0+(m.getD i.toNat []).length≤274877906944)&&(decide ((↑m.length:Int).toNat=((List.replicate m.length (0:Int)).set i.toNat 1).length)&&(decide (0+(m.getD i.toNat []).length=([]++m.getD i.toNat []).length)&&(decide (0+(m.getD i.toNat []).length+(↑m.length:Int).toNat≤274877906944)&&(decide (0+(m.getD i.toNat []).length+(↑m.length:Int).toNat=([]++m.getD i.toNat []++(List.replicate m.length (0:Int)).set i.toNat 1).length)&&(decide (n=rows.length)&&((decide (n+1≤274877906944))&&true)))))))))))))))),[],qQ m v (n+1) (rows++[[]++m.getD i.toNat []++(List.replicate m.length (0:Int)).set i.toNat 1]) (IntKind.i64.wrap (i+1))):=by kernel_rfl
theorem RM (m:List (List Int)) (v:List Int) (n:Nat) (rows:List (List Int)) (i:Int):aC 0 (a8 f133 0) (aA f133 0) (aG tt (a9 T52) ([]) 0 100 (a0 0 (a5 f133)) (qQ m v n rows i) [(0,false)])=
  some (.exit 0,((!decide (i<(↑m.length:Int)))&&true),[],E5 m v (n) (rows)):=by kernel_rfl
noncomputable def AL (n r:Nat) (rows:List (List Int)) (rest:List Int) (at':Int):St:=
 aY f133.ntmps [(6,.c (.sl 0 0 n 1 none)),(9,.c (.view none (.ints .i64 rest) r 1 none)),(10,.c (.int .i64 at'))] [.live (.ivs .i64 rows)]
noncomputable def rM (n r:Nat) (rows:List (List Int)) (rest:List Int) (at' i:Int):St:=
 aY f133.ntmps [(6,.c (.sl 0 0 n 1 none)),(9,.c (.view none (.ints .i64 rest) r 1 none)),(10,.c (.int .i64 at')),(11,.c (.int .i64 i))] [.live (.ivs .i64 rows)]
noncomputable def oH (n r:Nat) (rows:List (List Int)) (rest:List Int) (at' i k:Int):St:=
 aY f133.ntmps [(6,.c (.sl 0 0 n 1 none)),(9,.c (.view none (.ints .i64 rest) r 1 none)),(10,.c (.int .i64 at')),(11,.c (.int .i64 i)),(12,.c (.int .i64 k))] [.live (.ivs .i64 rows)]
noncomputable def yL (n r:Nat) (rows:List (List Int)) (rest:List Int) (at' i:Int):St:=rM n r rows rest at' i
noncomputable def s7 (n r:Nat) (rows:List (List Int)) (rest:List Int) (at':Int):St:=AL n r rows rest at'
noncomputable def s6 (r:Nat) (rest:List Int):St:=
 aY f133.ntmps [(9,.c (.view none (.ints .i64 rest) r 1 none))] []
theorem QM (n r:Nat) (rows:List (List Int)) (rest:List Int) (at' i k:Int):aC 0 (a8 f133 6) (aA f133 6) (aG tt (a9 T52) ([]) 0 100 (a0 6 (a5 f133)) (oH n r rows rest at' i k) [(0,true),(0,true),(0,true)])=
  some (.normal,(decide (k<(↑n:Int))&&(rp3 (k !=i) (decide (0≤k)&&(decide (k<(↑n:Int))&&((k !=i)&&(decide (k.toNat<rows.length)&&(rp2 (k !=i) (decide (0≤at')&&(decide (at'<(↑(rows.getD k.toNat []).length:Int))&&((k !=i)&&(decide (at'.toNat<(rows.getD k.toNat []).length)&&((k !=i)&&((bif k !=i then(rows.getD k.toNat []).getD at'.toNat 0 !=0 else false)&&(decide (0≤k)&&(decide (k<(↑n:Int))&&(decide (k.toNat<rows.length)&&(decide (0≤i)&&(decide (i<(↑n:Int))&&(decide (i.toNat<rows.length)&&(decide ((rows.getD k.toNat []).length≤274877906944)&&(decide ((rows.getD k.toNat []).length=(rows.getD i.toNat []).length)&&(a7 (rows.getD k.toNat [])&&(a7 (rows.getD i.toNat [])&&(decide (0≤b9 (rows.getD i.toNat []))&&(decide (0≤k)&&(decide (k<(↑n:Int))&&((decide (k.toNat<rows.length))&&true))))))))))))))))))))))))))),[],oH (n) (r) (rows.set k.toNat (nlL (rows.getD k.toNat []) (rows.getD i.toNat []))) (rest) at' i (IntKind.i64.wrap (k+1))):=by kernel_rfl
theorem QN (n r:Nat) (rows:List (List Int)) (rest:List Int) (at' i k:Int):aC 0 (a8 f133 6) (aA f133 6) (aG tt (a9 T52) ([]) 0 100 (a0 6 (a5 f133)) (oH n r rows rest at' i k) [(0,true),(0,true),(0,false)])=
  some (.normal,(decide (k<(↑n:Int))&&(rp3 (k !=i) (decide (0≤k)&&(decide (k<(↑n:Int))&&((k !=i)&&(decide (k.toNat<rows.length)&&(rp2 (k !=i) (decide (0≤at')&&(decide (at'<(↑(rows.getD k.toNat []).length:Int))&&((k !=i)&&(decide (at'.toNat<(rows.getD k.toNat []).length)&&((k !=i)&&((!bif k !=i then(rows.getD k.toNat []).getD at'.toNat 0 !=0 else false)&&true))))))))))))),[],oH (n) (r) (rows) (rest) at' i (IntKind.i64.wrap (k+1))):=by kernel_rfl
theorem QO (n r:Nat) (rows:List (List Int)) (rest:List Int) (at' i k:Int):aC 0 (a8 f133 6) (aA f133 6) (aG tt (a9 T52) ([]) 0 100 (a0 6 (a5 f133)) (oH n r rows rest at' i k) [(0,true),(0,false)])=
  some (.normal,(decide (k<(↑n:Int))&&(rp9 (!k !=i) true)),[],oH (n) (r) (rows) (rest) at' i (IntKind.i64.wrap (k+1))):=by kernel_rfl
theorem QP (n r:Nat) (rows:List (List Int)) (rest:List Int) (at' i k:Int):aC 0 (a8 f133 6) (aA f133 6) (aG tt (a9 T52) ([]) 0 100 (a0 6 (a5 f133)) (oH n r rows rest at' i k) [(0,false)])=
  some (.exit 6,((!decide (k<(↑n:Int)))&&true),[],yL (n) (r) (rows) (rest) at' i):=by kernel_rfl
def byS (at' i:Nat) (k:Nat) (rows:List (List Int)):List (List Int):=
 bif ((k:Int)!=(i:Int))&&((rows.getD k []).getD at' 0 !=0)then rows.set k (nlL (rows.getD k []) (rows.getD i []))else rows
def byK (at' i:Nat) (rows:List (List Int)):List (List Int):=bL (byS at' i) rows.length 0 rows
def bT (L:Nat) (rows:List (List Int)):Bool:=rows.all fun r=>decide (r.length=L)&&a7 r
theorem QE (n r:Nat) (rows rows1:List (List Int)) (rest:List Int) (at' i:Int):aC 0 (a8 f133 4) (aA f133 4) (aG tt (a9 T52) ([(6,⟨a8 f133 6,oH n r rows rest at' i 0,.normal,yL n r rows1 rest at' i⟩)]) 0 100 (a0 4 (a5 f133)) (rM n r rows rest at' i) [(0,true),(0,true)])=
  some (.exit 4,(decide (i<(↑n:Int))&&(decide (0≤i)&&(decide (i<(↑n:Int))&&(decide (i.toNat<rows.length)&&(decide ((rows.getD i.toNat []).length≤274877906944)&&((b9 (rows.getD i.toNat [])==at')&&(decide (0≤i)&&(decide (i<(↑n:Int))&&(decide (i.toNat<rows1.length)&&(decide (rest.length≤274877906944)&&(decide (rest.length=(rows1.getD i.toNat []).length)&&(a7 rest&&(a7 (rows1.getD i.toNat [])&&((decide (0≤b9 (rows1.getD i.toNat [])))&&true)))))))))))))),[oH n r rows rest at' i 0=oH n r rows rest at' i 0],s7 (n) (rest.length) (rows1) (nlL rest (rows1.getD i.toNat [])) at'):=by kernel_rfl
theorem LI (n r:Nat) (rows:List (List Int)) (rest:List Int) (at' i:Int):aC 0 (a8 f133 4) (aA f133 4) (aG tt (a9 T52) ([]) 0 100 (a0 4 (a5 f133)) (rM n r rows rest at' i) [(0,true),(0,false)])=
  some (.normal,(decide (i<(↑n:Int))&&(decide (0≤i)&&(decide (i<(↑n:Int))&&(decide (i.toNat<rows.length)&&(decide ((rows.getD i.toNat []).length≤274877906944)&&((!b9 (rows.getD i.toNat [])==at')&&true)))))),[],rM (n) (r) (rows) (rest) at' (IntKind.i64.wrap (i+1))):=by kernel_rfl
theorem LJ (n r:Nat) (rows:List (List Int)) (rest:List Int) (at' i:Int):aC 0 (a8 f133 4) (aA f133 4) (aG tt (a9 T52) ([]) 0 100 (a0 4 (a5 f133)) (rM n r rows rest at' i) [(0,false)])=
  some (.exit 4,((!decide (i<(↑n:Int)))&&true),[],s7 (n) (r) (rows) (rest) at'):=by kernel_rfl
theorem PN (n r:Nat) (rows rows1:List (List Int)) (rest rest1:List Int) (at':Int):aC 0 (a8 f133 2) (aA f133 2) (aG tt (a9 T52) ([(4,⟨a8 f133 4,rM n r rows rest at' 0,.normal,s7 n r rows1 rest1 at'⟩)]) 0 100 (a0 2 (a5 f133)) (AL n r rows rest at') [(0,true)])=
  some (.normal,((decide (at'<4))&&true),[rM n r rows rest at' 0=rM n r rows rest at' 0],AL (n) (r) (rows1) (rest1) (IntKind.i64.wrap (at'+1))):=by kernel_rfl
theorem PO (n r:Nat) (rows rows1:List (List Int)) (rest rest1:List Int) (at':Int) (lcv:List (Nat×LC)):aC 0 (a8 f133 2) (aA f133 2) (aG tt (a9 T52) (lcv) 0 100 (a0 2 (a5 f133)) (AL n r rows rest at') [(0,false)])=
  some (.exit 2,((!decide (at'<4))&&true),[],s6 (r) (rest)):=by kernel_rfl
end
section
theorem fW {L:Nat} {rows:List (List Int)} (h:bT L rows=true) {i:Nat} (hi:i<rows.length):(rows.getD i []).length=L∧a7 (rows.getD i [])=true:=by
 rw[List.getD_eq_getElem?_getD,List.getElem?_eq_getElem hi]
 have:=List.all_eq_true.1 h _ (List.getElem_mem hi)
 simpa only[Bool.and_eq_true,decide_eq_true_eq,Option.getD_some]using this
theorem CM {L:Nat} {rows:List (List Int)} (h:bT L rows=true) {i:Nat} {v:List Int} (h1:v.length=L) (h2:a7 v=true):bT L (rows.set i v)=true:=by
 unfold bT at h⊢
 rw[List.all_eq_true]at h⊢
 intro y hy
 rcases List.mem_or_eq_of_mem_set hy with h'|h'
 ·exact h y h'
 ·subst h';simp[h1,h2]
theorem mH {L:Nat} {rows:List (List Int)} (h:bT L rows=true) {v:List Int} (h1:v.length=L) (h2:a7 v=true):bT L (rows++[v])=true:=by
 unfold bT at h⊢
 simp[List.all_append,h,h1,h2]
def AF (n i:Nat):List Int:=(List.replicate n (0:Int)).set i 1
theorem FH (n i:Nat):(AF n i).length=n:=by simp[AF]
theorem m6 (n:Nat):a7 (List.replicate n (0:Int))=true:=by
 simp only[a7,List.all_eq_true]
 intro x hx
 rw[(List.mem_replicate.1 hx).2];rfl
theorem FG (n i:Nat):a7 (AF n i)=true:=cU (m6 n) rfl
def bwS (m:List (List Int)) (i:Nat) (o:List (List Int)):List (List Int):=o++[m.getD i []++AF m.length i]
def bwL (m:List (List Int)):List (List Int):=bL (bwS m) m.length 0 []
theorem xB {m:List (List Int)} (hm:bT 4 m=true):(bwL m).length=m.length∧bT (4+m.length) (bwL m)=true:=
 bB (step:=bwS m) (fun i o=>o.length=i∧bT (4+m.length) o=true) m.length [] ⟨rfl,rfl⟩ fun i o hi h=>by
  obtain⟨g1,g2⟩:=fW hm hi
  exact⟨by simp[bwS,h.1],mH h.2 (by rw[List.length_append,g1,FH]) (eE g2 (FG _ _))⟩
theorem a4L (m:List (List Int)) (v:List Int) (hn:m.length≤1000) (hm:bT 4 m=true):
  aS Tryz.prog 0 (.block 0 (.loop (a0 0 (a5 f133)))) (qQ m v 0 [] 0) fun e t=>e=.normal∧t=E5 m v m.length (bwL m):=by
 have key:=aS.count hT t52 bK (m:=0) (id:=0) (body:=a0 0 (a5 f133)) m.length (fun i o=>o.length=i) (fun i o=>qQ m v o.length o i) (fun o=>E5 m v o.length o) (bwS m) (a8 f133 0) (aA f133 0)
  (fun _ _=>[]) (fun _ _ _ _=>aI.nil) (fun i o hi h=>⟨by simp[bwS,h], ?_⟩) (fun o h=>⟨_,_,⟨_,_,RM m v o.length o m.length,by simp,by simp⟩⟩) [] rfl
 ·have hb:=(xB hm).1
  unfold bwL at hb
  rw[hb]at key;exact key
 ·obtain⟨g1,g2⟩:=fW hm hi
  have e:=RL m v o.length o i
  rw[aB (by omega) (by omega),Int.toNat_natCast]at e
  unfold bwS
  rw[List.length_append,AF]
  refine⟨_,_,⟨_,_,e, ?_,by simp⟩⟩
  simp only[List.nil_append,List.length_append,List.length_set,List.length_replicate,Int.toNat_natCast,g1,bS,rpS]
  omega
theorem DD {L n at' i k:Nat} {rows:List (List Int)} (h:rows.length=n∧bT L rows=true) (hk:k<n):(byS at' i k rows).length=n∧bT L (byS at' i k rows)=true:=by
 unfold byS
 cases ((k:Int)!=(i:Int))&&((rows.getD k []).getD at' 0 !=0)
 ·exact h
 ·rw[cond_true]
  obtain⟨g1,g2⟩:=fW h.2 (i:=k) (by omega)
  exact⟨by rw[List.length_set];exact h.1,CM h.2 (by rw[l0];exact g1) (rF _ _)⟩
theorem H8 {at' i k:Nat} {rows:List (List Int)}:(byS at' i k rows).getD i []=rows.getD i []:=by
 unfold byS
 cases h:((k:Int)!=(i:Int))&&((rows.getD k []).getD at' 0 !=0)
 ·rfl
 ·rw[Bool.and_eq_true]at h
  have hne:k≠i:=by
   intro e;subst e;simp at h
  rw[cond_true,List.getD_eq_getElem?_getD,List.getElem?_set_ne hne,←List.getD_eq_getElem?_getD]
theorem DC {L at' i:Nat} {rows:List (List Int)} (h:bT L rows=true):(byK at' i rows).length=rows.length∧bT L (byK at' i rows)=true∧(byK at' i rows).getD i []=rows.getD i []:=by
 have:=bB (step:=byS at' i) (fun _ o=>(o.length=rows.length∧bT L o=true)∧o.getD i []=rows.getD i []) rows.length rows ⟨⟨rfl,h⟩,rfl⟩ fun k o hk h=>⟨DD h.1 hk,by rw[H8];exact h.2⟩
 exact⟨this.1.1,this.1.2,this.2⟩
theorem WY (n r:Nat) (rows:List (List Int)) (rest:List Int) (at' i L:Nat) (hL:L≤2000) (ha:at'<L) (hn:n≤1000) (hr:rows.length=n) (ho:bT L rows=true) (hi:i<n) (h0:b9 (rows.getD i [])=(at':Int)):
  aS Tryz.prog 0 (.block 6 (.loop (a0 6 (a5 f133)))) (oH n r rows rest at' i 0) fun e t=>e=.normal∧t=yL n r (byK at' i rows) rest at' i:=by
 have key:=aS.count hT t52 bK (m:=0) (id:=6) (body:=a0 6 (a5 f133)) n (fun _ o=>(o.length=n∧bT L o=true)∧o.getD i []=rows.getD i []) (fun k o=>oH n r o rest at' i k) (fun o=>yL n r o rest at' i) (byS at' i) (a8 f133 6) (aA f133 6)
  (fun _ _=>[]) (fun _ _ _ _=>aI.nil) (fun k o hk h=>⟨⟨DD h.1 hk,by rw[H8];exact h.2⟩, ?_⟩) (fun o h=>⟨_,_,⟨_,_,QP n r o rest at' i n,by simp,by simp⟩⟩) rows ⟨⟨hr,ho⟩,rfl⟩
 ·unfold byK;rw[hr];exact key
 ·obtain⟨⟨h1,h2⟩,h3⟩:=h
  obtain⟨g1,g2⟩:=fW h2 (i:=k) (by omega)
  obtain⟨g3,g4⟩:=fW h2 (i:=i) (by omega)
  have g5:0≤b9 (o.getD i []):=by rw[h3,h0];omega
  unfold byS
  cases c1:((k:Int)!=(i:Int))with
  |false=>
   have e:=QO n r o rest at' i k
   rw[aB (by omega) (by omega)]at e
   refine⟨_,_,⟨_,_,e, ?_,by simp⟩⟩
   simp only[c1,bS,rpS]
   omega
  |true=>
   cases c2:((o.getD k []).getD at' 0 !=0)with
   |false=>
    have e:=QN n r o rest at' i k
    rw[aB (by omega) (by omega),Int.toNat_natCast,Int.toNat_natCast]at e
    refine⟨_,_,⟨_,_,e, ?_,by simp⟩⟩
    simp only[c1,c2,g1,bS,rpS]
    omega
   |true=>
    have e:=QM n r o rest at' i k
    rw[aB (by omega) (by omega),Int.toNat_natCast,Int.toNat_natCast,Int.toNat_natCast]at e
    refine⟨_,_,⟨_,_,e, ?_,by simp⟩⟩
    simp only[c1,c2,g1,g2,g3,g4,g5,bS,rpS]
    omega
def byF (rows:List (List Int)) (at':Nat) (i:Nat) (_:Unit):Unit⊕Nat:=bif b9 (rows.getD i [])==(at':Int)then .inr i else .inl ()
def byT (at':Nat) (s:List (List Int)×List Int):List (List Int)×List Int:=match dK (byF s.1 at') s.1.length 0 ()with
 |.inl _=>s
 |.inr i=>(byK at' i s.1,nlL s.2 ((byK at' i s.1).getD i []))
theorem r9 {L n at':Nat} {s:List (List Int)×List Int} (h:(s.1.length=n∧bT L s.1=true)∧s.2.length=L∧a7 s.2=true):((byT at' s).1.length=n∧bT L (byT at' s).1=true)∧(byT at' s).2.length=L∧a7 (byT at' s).2=true:=by
 unfold byT
 split
 ·exact h
 ·obtain⟨q1,q2,q3⟩:=DC (at':=at') (i:= ‹Nat›) h.1.2
  exact⟨⟨by rw[q1];exact h.1.1,q2⟩,by rw[l0];exact h.2.1,rF _ _⟩
theorem KZ:a0 6 (a0 4 (a5 f133))=a0 6 (a5 f133):=by kernel_rfl
theorem KY:a0 4 (a0 2 (a5 f133))=a0 4 (a5 f133):=by kernel_rfl
theorem WT (n r:Nat) (rows:List (List Int)) (rest:List Int) (at' L:Nat) (hL:L≤2000) (ha:at'<L) (hn:n≤1000) (hr:rows.length=n) (ho:bT L rows=true) (hrr:r=rest.length) (h1:rest.length=L) (h2:a7 rest=true):
  aS Tryz.prog 0 (.block 4 (.loop (a0 4 (a5 f133)))) (rM n r rows rest at' 0) fun e t=>e=.normal∧t=s7 n (byT at' (rows,rest)).2.length (byT at' (rows,rest)).1 (byT at' (rows,rest)).2 at':=by
 subst hrr
 have key:=aS.countE hT t52 bK (m:=0) (id:=4) (body:=a0 4 (a5 f133)) (β:=Unit) (γ:=Nat) n (fun _ _=>True) (fun i _=>rM n rest.length rows rest at' i) (fun _=>s7 n rest.length rows rest at')
  (fun i=>s7 n rest.length (byK at' i rows) (nlL rest ((byK at' i rows).getD i [])) at') .normal (.inl rfl) (byF rows at') (a8 f133 4) (aA f133 4)
  (fun i _=>bif b9 (rows.getD i [])==(at':Int)then [(6,⟨a8 f133 6,oH n rest.length rows rest at' i 0,.normal,yL n rest.length (byK at' i rows) rest at' i⟩)]else [])
  (fun i _ hi _=> ?_) (fun i _ hi _=> ?_) (fun _ _=>⟨_,_,⟨_,_,LJ n rest.length rows rest at' n,by simp,by simp⟩⟩) () trivial
 ·refine aS.mono key fun e t h=> ?_
  unfold byT
  dsimp only
  rw[hr]
  revert h
  cases dK (byF rows at') n 0 ()with
  |inl x=>exact fun h=>h
  |inr i=>exact fun h=>by dsimp only at h⊢;rw[l0];exact h
 ·cases c1:b9 (rows.getD i [])==(at':Int)with
  |false=>exact aI.nil
  |true=>exact aI.cons (by kernel_rfl) (by rw[KZ];exact WY n rest.length rows rest at' i L hL ha hn hr ho hi (by simpa using c1)) aI.nil
 ·obtain⟨g1,g2⟩:=fW ho (i:=i) (by omega)
  cases c1:b9 (rows.getD i [])==(at':Int)with
  |true=>
   obtain⟨q1,q2,q3⟩:=DC (at':=at') (i:=i) ho
   refine .inr ⟨i,by unfold byF;rw[c1];rfl, ?_⟩
   rw[cond_true,if_pos rfl]
   have e:=QE n rest.length rows (byK at' i rows) rest at' i
   rw[Int.toNat_natCast,q3]at e
   rw[q3]
   refine⟨_,_,⟨_,_,e, ?_,by simp⟩⟩
   have c2:b9 (rows.getD i [])=(at':Int):=by simpa using c1
   simp only[g1,g2,h1,h2,q1,c2,beq_self_eq_true,bS,rpS]
   omega
  |false=>
   refine .inl ⟨(),by unfold byF;rw[c1];rfl,trivial, ?_⟩
   rw[cond_false]
   have e:=LI n rest.length rows rest at' i
   rw[aB (by omega) (by omega),Int.toNat_natCast]at e
   refine⟨_,_,⟨_,_,e, ?_,by simp⟩⟩
   simp only[c1,g1,bS,rpS]
   omega
def byE (m:List (List Int)) (v:List Int):List (List Int)×List Int:=bL byT 4 0 (bwL m,v++List.replicate m.length 0)
theorem DB {m:List (List Int)} {v:List Int} (hm:bT 4 m=true) (h1:v.length=4) (h2:a7 v=true):((byE m v).1.length=m.length∧bT (4+m.length) (byE m v).1=true)∧(byE m v).2.length=4+m.length∧a7 (byE m v).2=true:=
 bB (step:=byT) (fun _ s=>(s.1.length=m.length∧bT (4+m.length) s.1=true)∧s.2.length=4+m.length∧a7 s.2=true) 4 (bwL m,v++List.replicate m.length 0)
  ⟨xB hm,by simp[h1],eE h2 (m6 _)⟩ fun i s _ h=>r9 h
theorem WR (m:List (List Int)) (v:List Int) (hn:m.length≤1000) (hm:bT 4 m=true) (h1:v.length=4) (h2:a7 v=true):
  aS Tryz.prog 0 (.block 2 (.loop (a0 2 (a5 f133)))) (AL m.length (v++List.replicate m.length 0).length (bwL m) (v++List.replicate m.length 0) 0) fun e t=>e=.normal∧t=s6 (byE m v).2.length (byE m v).2:=by
 have i0:((bwL m).length=m.length∧bT (4+m.length) (bwL m)=true)∧(v++List.replicate m.length 0).length=4+m.length∧a7 (v++List.replicate m.length 0)=true:=⟨xB hm,by simp[h1],eE h2 (m6 _)⟩
 refine aS.count hT t52 bK (m:=0) (id:=2) (body:=a0 2 (a5 f133)) 4 (fun _ s=>(s.1.length=m.length∧bT (4+m.length) s.1=true)∧s.2.length=4+m.length∧a7 s.2=true) (fun i s=>AL m.length s.2.length s.1 s.2 i) (fun s=>s6 s.2.length s.2) byT (a8 f133 2) (aA f133 2)
  (fun i s=>[(4,⟨a8 f133 4,rM m.length s.2.length s.1 s.2 i 0,.normal,s7 m.length s.2.length (byT i s).1 (byT i s).2 i⟩)])
  (fun i s hi h=>aI.cons (by kernel_rfl) (by rw[KY];have:=WT m.length s.2.length s.1 s.2 i (4+m.length) (by omega) (by omega) hn h.1.1 h.1.2 rfl h.2.1 h.2.2;rw[(r9 (at':=i) h).2.1,←h.2.1]at this;exact this) aI.nil)
  (fun i s hi h=>⟨r9 h, ?_⟩) (fun s h=>⟨_,_,⟨_,_,PO m.length s.2.length s.1 s.1 s.2 s.2 (4:Nat) [],by simp,by simp⟩⟩) (bwL m,v++List.replicate m.length 0) i0
 have e:=PN m.length s.2.length s.1 (byT i s).1 s.2 (byT i s).2 i
 rw[aB (by omega) (by omega)]at e
 rw[(r9 (at':=i) h).2.1,←h.2.1]
 refine⟨_,_,⟨_,_,e, ?_,by simp⟩⟩
 simp only[bS,rpS]
 omega
noncomputable def rY (n r:Nat) (rows:List (List Int)) (rest:List Int):St:=
 aY f133.ntmps [(6,.c (.sl 0 0 n 1 none)),(9,.c (.sl 1 0 r 1 none)),(10,.c (.int .i64 0))] [.live (.ivs .i64 rows),.live (.ints .i64 rest)]
theorem WV (m:List (List Int)) (v:List Int) (hn:m.length≤1000) (hm:bT 4 m=true) (h1:v.length=4) (h2:a7 v=true):
  aS Tryz.prog 0 (.block 2 (.loop (a0 2 (a5 f133)))) (rY m.length (0+v.length+m.length) (bwL m) (v++List.replicate m.length 0)) fun e t=>e=.normal∧t=s6 (byE m v).2.length (byE m v).2:=by
 have hl:0+v.length+m.length=(v++List.replicate m.length (0:Int)).length:=by simp
 rw[hl]
 have g:=WR m v hn hm h1 h2
 revert g
 generalize (v++List.replicate m.length (0:Int))=rest
 intro g
 have e:fit 0 (a8 f133 2) ⟨(rY m.length rest.length (bwL m) rest).tmps.set 9 (.c (.view none (.ints .i64 rest) rest.length 1 none)),(rY m.length rest.length (bwL m) rest).heap.set 1 .dead⟩=AL m.length rest.length (bwL m) rest 0:=by kernel_rfl
 have w:=(cT.froz 0 9 1 (s:=rY m.length rest.length (bwL m) rest) (len:=rest.length) (es:=1) (cap:=none) (c:=.ints .i64 rest) rfl rfl rfl (Nat.mul_one _)).trans (cT.fit 0 (a8 f133 2) _)
 rw[e]at w
 exact g.pre w
def byB (m:List (List Int)) (v:List Int):Bool:= !bet (b9 (byE m v).2) 0 3
def byD (m:List (List Int)) (v:List Int):List Int:=bif bet (b9 (byE m v).2) 0 3 then []else dW ((byE m v).2.drop 4) 30
noncomputable def KA:List bD:=[⟨194,[],r7⟩]++T52
theorem a4B:a6 Tryz.prog KA:=by
 refine a6.append ?_ e52
 intro e he
 simp only[List.mem_cons,List.not_mem_nil,or_false]at he
 subst he;exact QV t5
theorem a0D:bJ Tryz.prog (a9 KA):=aM a4B
theorem U1 (m rows:List (List Int)) (v rest:List Int):aD tt (a9 KA) ([(0,⟨a8 f133 0,qQ m v 0 [] 0,.normal,E5 m v m.length rows⟩),(2,⟨a8 f133 2,rY m.length (0+v.length+m.length) rows (v++List.replicate m.length (0:Int)),.normal,s6 rest.length rest⟩)]) 100 f133 [.c (.view none (.ivs .i64 m) m.length 1 none),.c (.view none (.ints .i64 v) v.length 1 none)] [] [(0,true)]=
  some ⟨.tup [.c (.sl 0 0 0 1 none),.c (.bool false)],[.live (.ints .i64 [])],(decide (0+v.length≤274877906944)&&(decide (0+v.length=([]++v).length)&&(decide ((↑(0+v.length):Int)+(↑m.length:Int)≤274877906944)&&(decide (rest.length≤274877906944)&&((bet (b9 rest) 0 3)&&true))))),[qQ m v 0 [] 0=qQ m v 0 [] 0,rY m.length (0+v.length+m.length) rows (v++List.replicate m.length (0:Int))=rY m.length (0+v.length+m.length) rows (v++List.replicate m.length (0:Int))]⟩:=by kernel_rfl
theorem U2 (m rows:List (List Int)) (v rest:List Int):aD tt (a9 KA) ([(0,⟨a8 f133 0,qQ m v 0 [] 0,.normal,E5 m v m.length rows⟩),(2,⟨a8 f133 2,rY m.length (0+v.length+m.length) rows (v++List.replicate m.length (0:Int)),.normal,s6 rest.length rest⟩)]) 100 f133 [.c (.view none (.ivs .i64 m) m.length 1 none),.c (.view none (.ints .i64 v) v.length 1 none)] [] [(0,false)]=
  some ⟨.tup [.c (.sl 0 0 (List.drop 4 rest).length 1 none),.c (.bool true)],[.live (.ints .i64 (dW (List.drop 4 rest) 30))],(decide (0+v.length≤274877906944)&&(decide (0+v.length=([]++v).length)&&(decide ((↑(0+v.length):Int)+(↑m.length:Int)≤274877906944)&&(decide (rest.length≤274877906944)&&(!bet (b9 rest) 0 3&&(decide (4≤(↑rest.length:Int))&&(decide ((List.drop 4 rest).length≤274877906944)&&((a7 (List.drop 4 rest))&&true)))))))),[qQ m v 0 [] 0=qQ m v 0 [] 0,rY m.length (0+v.length+m.length) rows (v++List.replicate m.length (0:Int))=rY m.length (0+v.length+m.length) rows (v++List.replicate m.length (0:Int))]⟩:=by kernel_rfl
def OX:aN:=fun args h=>
 match args,h with
 |[.c (.view _ (.ivs .i64 m) n 1 _),.c (.view _ (.ints .i64 v) n2 1 _)],[]=>
  some (.tup [.c (.sl 0 0 (byD m v).length 1 none),.c (.bool (byB m v))],[.live (.ints .i64 (byD m v))],[decide (m.length≤1000),bT 4 m,decide (v.length=4),a7 v])
 |_,_=>none
theorem yM {v:List Int} (h:a7 v=true) (n:Nat):a7 (v.drop n)=true:=by
 simp only[a7,List.all_eq_true]at h⊢
 exact fun x hx=>h x (List.mem_of_mem_drop hx)
theorem a5Q:aT Tryz.prog 161 OX:=by
 intro args h res h' o hnorm he ho
 unfold OX at he
 split at he
 case h_2=>cases he
 rename_i nl m n cap nl2 v n2 cap2
 simp only[Option.some.injEq,Prod.mk.injEq]at he
 obtain⟨rfl,rfl,rfl⟩:=he
 simp only[List.mem_cons,List.not_mem_nil,or_false,forall_eq_or_imp,forall_eq,decide_eq_true_eq]at ho
 obtain⟨o1,o2,o3,o4⟩:=ho
 simp only[bE,AV.norm,bF,aF.norm,Con.size,List.cons.injEq,AV.c.injEq,AV.agg.injEq,aF.view.injEq,aL,true_and,and_true]at hnorm
 obtain⟨⟨rfl,rfl,rfl⟩,rfl,rfl,rfl⟩:=hnorm
 obtain⟨-,q1,q2⟩:=DB o2 o3 o4
 have lo: ∀cc,(a5 f133)=cc→aI Tryz.prog 0 [(0,⟨a8 f133 0,qQ m v 0 [] 0,.normal,E5 m v m.length (bwL m)⟩),(2,⟨a8 f133 2,rY m.length (0+v.length+m.length) (bwL m) (v++List.replicate m.length (0:Int)),.normal,s6 (byE m v).2.length (byE m v).2⟩)] cc:=fun cc h=>by
  subst h
  exact aI.cons (by kernel_rfl) (a4L m v o1 o2) (aI.cons (by kernel_rfl) (WV m v o1 o2 o3 o4) aI.nil)
 unfold byB byD
 cases hb:bet (b9 (byE m v).2) 0 3 with
 |true=>
  exact mo (f:=161) (fn:=f133) a0D (U1 m (bwL m) v (byE m v).2) (by
   simp only[hb,q1,o3,List.nil_append,bS,rpS];omega) (hlc:=(fun cc hcc=>lo cc (by cases hcc;rfl)))
 |false=>
  rw[cond_false,fX]
  exact mo (f:=161) (fn:=f133) a0D (U2 m (bwL m) v (byE m v).2) (by
   simp only[hb,q1,o3,yM q2,List.nil_append,List.length_drop,bS,rpS];omega) (hlc:=(fun cc hcc=>lo cc (by cases hcc;rfl)))
noncomputable def T53:List bD:=[⟨161,[],nm OX⟩]++T52
theorem e53:a6 Tryz.prog T53:=by
 refine a6.append ?_ e52
 intro e he
 simp only[List.mem_cons,List.not_mem_nil,or_false]at he
 subst he;exact a5Q.ok
theorem t53:bJ Tryz.prog (a9 T53):=aM e53
end
section
noncomputable abbrev f157:=Tryz.f190
theorem UE (i:Int):aD tt (a9 T53) ([]) 100 f157 [.c (.int .i64 i)] [] [(0,false)]=
  some ⟨.tup [.c (.sl 0 0 4 1 none),.c (.bool true)],[.live (.ints .i64 ([0,0,0,0].set i.toNat 1))],(!!bet i 0 3&&(decide (0≤i)&&(decide (i<4)&&((decide (i.toNat<4))&&true)))),[]⟩:=by kernel_rfl
def unL (i:Int):List Int:=[0,0,0,0].set i.toNat 1
def PF:aN:=fun args h=>
 match args,h with
 |[.c (.int .i64 i)],[]=>
  some (.tup [.c (.view none (.ints .i64 (unL i)) 4 1 none),.c (.bool true)],[],[bet i 0 3])
 |_,_=>none
theorem a6A:aT Tryz.prog 190 PF:=by
 intro args h res h' o hnorm he ho
 unfold PF at he
 split at he
 case h_2=>cases he
 rename_i i
 simp only[Option.some.injEq,Prod.mk.injEq]at he
 obtain⟨rfl,rfl,rfl⟩:=he
 simp only[List.mem_cons,List.not_mem_nil,or_false,forall_eq_or_imp,forall_eq,decide_eq_true_eq]at ho
 have o1:=ho
 have h:=aX.1 o1
 exact(mo (f:=190) (fn:=f157) t53 (UE i) (by simp only[o1,bS,rpS];omega)).views (o:=[decide (4=(unL i).length)]) rfl (by simp[unL])
noncomputable def T54:List bD:=[⟨190,[],nm PF⟩]++T53
theorem e54:a6 Tryz.prog T54:=by
 refine a6.append ?_ e53
 intro e he
 simp only[List.mem_cons,List.not_mem_nil,or_false]at he
 subst he;exact a6A.ok
theorem t54:bJ Tryz.prog (a9 T54):=aM e54
noncomputable abbrev f158:=Tryz.f191
noncomputable def uB (m:List (List Int)) (n:Nat) (out:List Int) (i:Int):St:=
 aY f158.ntmps [(0,.c (.view none (.ivs .i64 m) m.length 1 none)),(3,.c (.sl 0 0 n 1 none)),(4,.c (.int .i64 i))] [.live (.ints .i64 out)]
noncomputable def KO (n:Nat) (out:List Int):St:=aY f158.ntmps [(3,.c (.sl 0 0 n 1 none))] [.live (.ints .i64 out)]
theorem SA (m:List (List Int)) (n:Nat) (out:List Int) (i:Int):aC 0 (a8 f158 0) (aA f158 0) (aG tt (a9 T54) ([]) 0 100 (a0 0 (a5 f158)) (uB m n out i) [(0,true),(0,true)])=
  some (.normal,(decide (i<(↑m.length:Int))&&(decide (0≤i)&&(decide (i≤(↑m.length:Int))&&(decide (0≤i)&&(decide (i<(↑m.length:Int))&&(decide (i.toNat<m.length)&&(decide ((List.take i.toNat m).length≤274877906944)&&(eL (List.take i.toNat m)&&(decide ((m.getD i.toNat []).length≤274877906944)&&(decide ((cJ (List.take i.toNat m)).length≤1000)&&(iU (m.getD i.toNat []).length (cJ (List.take i.toNat m))&&(a7 (m.getD i.toNat [])&&(!iL (List.take i.toNat m) (m.getD i.toNat [])&&(decide (n=out.length)&&((decide (n+1≤274877906944))&&true))))))))))))))),[],uB m (n+1) (out++[i]) (IntKind.i64.wrap (i+1))):=by kernel_rfl
theorem SB (m:List (List Int)) (n:Nat) (out:List Int) (i:Int):aC 0 (a8 f158 0) (aA f158 0) (aG tt (a9 T54) ([]) 0 100 (a0 0 (a5 f158)) (uB m n out i) [(0,true),(0,false)])=
  some (.normal,(decide (i<(↑m.length:Int))&&(decide (0≤i)&&(decide (i≤(↑m.length:Int))&&(decide (0≤i)&&(decide (i<(↑m.length:Int))&&(decide (i.toNat<m.length)&&(decide ((List.take i.toNat m).length≤274877906944)&&(eL (List.take i.toNat m)&&(decide ((m.getD i.toNat []).length≤274877906944)&&(decide ((cJ (List.take i.toNat m)).length≤1000)&&(iU (m.getD i.toNat []).length (cJ (List.take i.toNat m))&&(a7 (m.getD i.toNat [])&&((!!iL (List.take i.toNat m) (m.getD i.toNat []))&&true))))))))))))),[],uB m (n) (out) (IntKind.i64.wrap (i+1))):=by kernel_rfl
theorem SC (m:List (List Int)) (n:Nat) (out:List Int) (i:Int):aC 0 (a8 f158 0) (aA f158 0) (aG tt (a9 T54) ([]) 0 100 (a0 0 (a5 f158)) (uB m n out i) [(0,false)])=
  some (.exit 0,((!decide (i<(↑m.length:Int)))&&true),[],KO (n) (out)):=by kernel_rfl
noncomputable abbrev f104:=Tryz.f118
noncomputable def lD (k:Int) (w:List Int) (c:List Bool) (n:Nat) (rows:List (List Int)) (g:Nat) (got:List Int) (i:Int):St:=
 aY f104.ntmps [(0,.c (.int .i64 k)),(1,.c (.view none (.ints .i64 w) w.length 1 none)),(2,.c (.view none (.bools c) c.length 1 none)),(7,.c (.sl 0 0 n 1 none)),(8,.c (.sl 1 0 g 1 none)),(9,.c (.int .i64 i))]
  [.live (.ivs .i64 rows),.live (.ints .i64 got)]
noncomputable def KB:St:=aY f104.ntmps [] []
noncomputable def KU:St:=aY f104.ntmps [(6,.c (.bool false))] []
noncomputable def qU (k:Int) (w:List Int) (c:List Bool) (n:Nat) (rows:List (List Int)) (g:Nat) (got:List Int) (i:Int) (b:Nat) (by_:List Int) (x j:Int):St:=
 aY f104.ntmps [(0,.c (.int .i64 k)),(1,.c (.view none (.ints .i64 w) w.length 1 none)),(2,.c (.view none (.bools c) c.length 1 none)),(7,.c (.sl 0 0 n 1 none)),(8,.c (.sl 1 0 g 1 none)),(9,.c (.int .i64 i)),(11,.c (.sl 2 0 b 1 none)),(13,.c (.int .i64 x)),(14,.c (.int .i64 j))]
  [.live (.ivs .i64 rows),.live (.ints .i64 got),.live (.ints .i64 by_)]
noncomputable def uU (k:Int) (w:List Int) (c:List Bool) (n:Nat) (rows:List (List Int)) (g:Nat) (got:List Int) (i x:Int):St:=
 aY f104.ntmps [(0,.c (.int .i64 k)),(1,.c (.view none (.ints .i64 w) w.length 1 none)),(2,.c (.view none (.bools c) c.length 1 none)),(7,.c (.sl 0 0 n 1 none)),(8,.c (.sl 1 0 g 1 none)),(9,.c (.int .i64 i)),(13,.c (.int .i64 x))]
  [.live (.ivs .i64 rows),.live (.ints .i64 got)]
theorem QH (k:Int) (w:List Int) (c:List Bool) (n:Nat) (rows:List (List Int)) (g:Nat) (got:List Int) (i:Int) (b:Nat) (by_:List Int) (x j:Int):aC 0 (a8 f104 2) (aA f104 2) (aG tt (a9 T54) ([]) 0 100 (a0 2 (a5 f104)) (qU k w c n rows g got i b by_ x j) [(0,true)])=
  some (.normal,(decide (j<(↑b:Int))&&(decide (0≤j)&&(decide (j<(↑b:Int))&&(decide (j.toNat<by_.length)&&(decide (0≤j)&&(decide (j<(↑g:Int))&&((decide (j.toNat<got.length))&&true))))))),[],qU k w c (n) (rows) (g) (got) (i) (b) (by_) ((IntKind.i64.wrap (x+IntKind.i64.wrap (by_.getD j.toNat 0*got.getD j.toNat 0))).tmod 31) (IntKind.i64.wrap (j+1))):=by kernel_rfl
theorem QI (k:Int) (w:List Int) (c:List Bool) (n:Nat) (rows:List (List Int)) (g:Nat) (got:List Int) (i:Int) (b:Nat) (by_:List Int) (x j:Int):aC 0 (a8 f104 2) (aA f104 2) (aG tt (a9 T54) ([]) 0 100 (a0 2 (a5 f104)) (qU k w c n rows g got i b by_ x j) [(0,false)])=
  some (.exit 2,((!decide (j<(↑b:Int)))&&true),[],uU k w c (n) (rows) (g) (got) (i) (x)):=by kernel_rfl
theorem R4 (k:Int) (w:List Int) (c:List Bool) (n:Nat) (rows:List (List Int)) (g:Nat) (got:List Int) (i x:Int):aC 0 (a8 f104 0) (aA f104 0) (aG tt (a9 T54) ([(2,⟨a8 f104 2,qU k w c n rows g got i (byD rows (aH k i)).length (byD rows (aH k i)) 0 0,.normal,uU k w c n rows g got i x⟩)]) 0 100 (a0 0 (a5 f104)) (lD k w c n rows g got i) [(0,true),(0,false),(0,true),(0,true)])=
  some (.ret,(decide (i<8)&&(decide (0≤i)&&(decide (i<(↑c.length:Int))&&(decide (i.toNat<c.length)&&((!!c.getD i.toNat false)&&(bet k 1 2&&(bet i 0 7&&(decide (n=rows.length)&&(decide (rows.length≤274877906944)&&(eL rows&&(decide ((aH k i).length≤274877906944)&&(decide ((cJ rows).length≤1000)&&(iU (aH k i).length (cJ rows)&&(a7 (aH k i)&&(iL rows (aH k i)&&(decide (n=rows.length)&&(decide (rows.length≤1000)&&(bT 4 rows&&(decide ((aH k i).length=4)&&(a7 (aH k i)&&(decide (0≤i)&&(decide (i<(↑w.length:Int))&&(decide (i.toNat<w.length)&&((x !=w.getD i.toNat 0)&&true)))))))))))))))))))))))),[qU k w c n rows g got i (byD rows (aH k i)).length (byD rows (aH k i)) 0 0=qU k w c n rows g got i (byD rows (aH k i)).length (byD rows (aH k i)) 0 0],KU):=by kernel_rfl
theorem R5 (k:Int) (w:List Int) (c:List Bool) (n:Nat) (rows:List (List Int)) (g:Nat) (got:List Int) (i x:Int):aC 0 (a8 f104 0) (aA f104 0) (aG tt (a9 T54) ([(2,⟨a8 f104 2,qU k w c n rows g got i (byD rows (aH k i)).length (byD rows (aH k i)) 0 0,.normal,uU k w c n rows g got i x⟩)]) 0 100 (a0 0 (a5 f104)) (lD k w c n rows g got i) [(0,true),(0,false),(0,true),(0,false)])=
  some (.normal,(decide (i<8)&&(decide (0≤i)&&(decide (i<(↑c.length:Int))&&(decide (i.toNat<c.length)&&((!!c.getD i.toNat false)&&(bet k 1 2&&(bet i 0 7&&(decide (n=rows.length)&&(decide (rows.length≤274877906944)&&(eL rows&&(decide ((aH k i).length≤274877906944)&&(decide ((cJ rows).length≤1000)&&(iU (aH k i).length (cJ rows)&&(a7 (aH k i)&&(iL rows (aH k i)&&(decide (n=rows.length)&&(decide (rows.length≤1000)&&(bT 4 rows&&(decide ((aH k i).length=4)&&(a7 (aH k i)&&(decide (0≤i)&&(decide (i<(↑w.length:Int))&&(decide (i.toNat<w.length)&&((!x !=w.getD i.toNat 0)&&true)))))))))))))))))))))))),[qU k w c n rows g got i (byD rows (aH k i)).length (byD rows (aH k i)) 0 0=qU k w c n rows g got i (byD rows (aH k i)).length (byD rows (aH k i)) 0 0],lD k w c (n) (rows) (g) (got) (IntKind.i64.wrap (i+1))):=by kernel_rfl
theorem M1 (k:Int) (w:List Int) (c:List Bool) (n:Nat) (rows:List (List Int)) (g:Nat) (got:List Int) (i:Int):aC 0 (a8 f104 0) (aA f104 0) (aG tt (a9 T54) ([]) 0 100 (a0 0 (a5 f104)) (lD k w c n rows g got i) [(0,true),(0,true)])=
  some (.normal,(decide (i<8)&&(decide (0≤i)&&(decide (i<(↑c.length:Int))&&(decide (i.toNat<c.length)&&((!c.getD i.toNat false)&&true))))),[],lD k w c (n) (rows) (g) (got) (IntKind.i64.wrap (i+1))):=by kernel_rfl
theorem M2 (k:Int) (w:List Int) (c:List Bool) (n:Nat) (rows:List (List Int)) (g:Nat) (got:List Int) (i:Int):aC 0 (a8 f104 0) (aA f104 0) (aG tt (a9 T54) ([]) 0 100 (a0 0 (a5 f104)) (lD k w c n rows g got i) [(0,true),(0,false),(0,false)])=
  some (.normal,(decide (i<8)&&(decide (0≤i)&&(decide (i<(↑c.length:Int))&&(decide (i.toNat<c.length)&&((!!c.getD i.toNat false)&&(bet k 1 2&&(bet i 0 7&&(decide (n=rows.length)&&(decide (rows.length≤274877906944)&&(eL rows&&(decide ((aH k i).length≤274877906944)&&(decide ((cJ rows).length≤1000)&&(iU (aH k i).length (cJ rows)&&(a7 (aH k i)&&(!iL rows (aH k i)&&(decide (n=rows.length)&&(decide (n+1≤274877906944)&&(decide (0≤i)&&(decide (i<(↑w.length:Int))&&(decide (i.toNat<w.length)&&(decide (g=got.length)&&((decide (g+1≤274877906944))&&true)))))))))))))))))))))),[],lD k w c (n+1) (rows++[aH k i]) (g+1) (got++[w.getD i.toNat 0]) (IntKind.i64.wrap (i+1))):=by kernel_rfl
theorem M3 (k:Int) (w:List Int) (c:List Bool) (n:Nat) (rows:List (List Int)) (g:Nat) (got:List Int) (i:Int):aC 0 (a8 f104 0) (aA f104 0) (aG tt (a9 T54) ([]) 0 100 (a0 0 (a5 f104)) (lD k w c n rows g got i) [(0,false)])=
  some (.exit 0,((!decide (i<8))&&true),[],KB):=by kernel_rfl
theorem TG (k:Int) (w:List Int) (c:List Bool):aD tt (a9 T54) ([(0,⟨a8 f104 0,lD k w c 0 [] 0 [] 0,.normal,KB⟩)]) 100 f104 [.c (.int .i64 k),.c (.view none (.ints .i64 w) w.length 1 none),.c (.view none (.bools c) c.length 1 none)] [] []=
  some ⟨.c (.bool true),[],true,[lD k w c 0 [] 0 [] 0=lD k w c 0 [] 0 [] 0]⟩:=by kernel_rfl
theorem NR (k:Int) (w:List Int) (c:List Bool):aD tt (a9 T54) ([(0,⟨a8 f104 0,lD k w c 0 [] 0 [] 0,.ret,KU⟩)]) 100 f104 [.c (.int .i64 k),.c (.view none (.ints .i64 w) w.length 1 none),.c (.view none (.bools c) c.length 1 none)] [] []=
  some ⟨.c (.bool false),[],true,[lD k w c 0 [] 0 [] 0=lD k w c 0 [] 0 [] 0]⟩:=by kernel_rfl
noncomputable abbrev f137:=Tryz.f159
noncomputable def u9 (k:Int) (c:List Bool) (n:Nat) (out:List Int) (i:Int):St:=
 aY f137.ntmps [(0,.c (.int .i64 k)),(1,.c (.view none (.bools c) c.length 1 none)),(5,.c (.sl 0 0 n 1 none)),(6,.c (.int .i64 i))] [.live (.ints .i64 out)]
noncomputable def KL (k:Int) (c:List Bool) (n:Nat) (out:List Int):St:=
 aY f137.ntmps [(0,.c (.int .i64 k)),(1,.c (.view none (.bools c) c.length 1 none)),(5,.c (.sl 0 0 n 1 none))] [.live (.ints .i64 out)]
theorem RU (k:Int) (c:List Bool) (n:Nat) (out:List Int) (i:Int):aC 0 (a8 f137 0) (aA f137 0) (aG tt (a9 T54) ([]) 0 100 (a0 0 (a5 f137)) (u9 k c n out i) [(0,true),(0,true)])=
  some (.normal,(decide (i<8)&&(decide (0≤i)&&(decide (i<(↑c.length:Int))&&(decide (i.toNat<c.length)&&((c.getD i.toNat false)&&(decide (n=out.length)&&((decide (n+1≤274877906944))&&true))))))),[],u9 k c (n+1) (out++[i]) (IntKind.i64.wrap (i+1))):=by kernel_rfl
theorem RV (k:Int) (c:List Bool) (n:Nat) (out:List Int) (i:Int):aC 0 (a8 f137 0) (aA f137 0) (aG tt (a9 T54) ([]) 0 100 (a0 0 (a5 f137)) (u9 k c n out i) [(0,true),(0,false)])=
  some (.normal,(decide (i<8)&&(decide (0≤i)&&(decide (i<(↑c.length:Int))&&(decide (i.toNat<c.length)&&((!c.getD i.toNat false)&&true))))),[],u9 k c (n) (out) (IntKind.i64.wrap (i+1))):=by kernel_rfl
theorem RW (k:Int) (c:List Bool) (n:Nat) (out:List Int) (i:Int):aC 0 (a8 f137 0) (aA f137 0) (aG tt (a9 T54) ([]) 0 100 (a0 0 (a5 f137)) (u9 k c n out i) [(0,false)])=
  some (.exit 0,((!decide (i<8))&&true),[],KL k c (n) (out)):=by kernel_rfl
noncomputable abbrev f136:=Tryz.f158
noncomputable def yB (k:Int) (w fr:List Int) (n:Nat) (rows:List (List Int)) (i:Int):St:=
 aY f136.ntmps [(0,.c (.int .i64 k)),(1,.c (.view none (.ints .i64 w) w.length 1 none)),(2,.c (.view none (.ints .i64 fr) fr.length 1 none)),(7,.c (.sl 0 0 n 1 none)),(8,.c (.int .i64 i))] [.live (.ivs .i64 rows)]
noncomputable def KJ (w fr:List Int) (n:Nat) (rows:List (List Int)):St:=
 aY f136.ntmps [(1,.c (.view none (.ints .i64 w) w.length 1 none)),(2,.c (.view none (.ints .i64 fr) fr.length 1 none)),(7,.c (.sl 0 0 n 1 none))] [.live (.ivs .i64 rows)]
theorem RS (k:Int) (w fr:List Int) (n:Nat) (rows:List (List Int)) (i:Int):aC 0 (a8 f136 0) (aA f136 0) (aG tt (a9 T54) ([]) 0 100 (a0 0 (a5 f136)) (yB k w fr n rows i) [(0,true)])=
  some (.normal,(decide (i<(↑fr.length:Int))&&(decide (0≤i)&&(decide (i<(↑fr.length:Int))&&(decide (i.toNat<fr.length)&&(bet k 1 2&&(bet (fr.getD i.toNat 0) 0 7&&(decide (n=rows.length)&&((decide (n+1≤274877906944))&&true)))))))),[],yB k w fr (n+1) (rows++[aH k (fr.getD i.toNat 0)]) (IntKind.i64.wrap (i+1))):=by kernel_rfl
theorem RT (k:Int) (w fr:List Int) (n:Nat) (rows:List (List Int)) (i:Int):aC 0 (a8 f136 0) (aA f136 0) (aG tt (a9 T54) ([]) 0 100 (a0 0 (a5 f136)) (yB k w fr n rows i) [(0,false)])=
  some (.exit 0,((!decide (i<(↑fr.length:Int)))&&true),[],KJ w fr (n) (rows)):=by kernel_rfl
end
section
def lK (m:List (List Int)) (v:List Int):Bool:=decide (m.length≤1000)&&(eL m&&(decide (v.length≤1000)&&(decide ((cJ m).length≤1000)&&(iU v.length (cJ m)&&a7 v))))
theorem vG {m:List (List Int)} {v:List Int} (h:lK m v=true):m.length≤1000∧eL m=true∧v.length≤1000∧(cJ m).length≤1000∧iU v.length (cJ m)=true∧a7 v=true:=by
 simpa only[lK,Bool.and_eq_true,decide_eq_true_eq]using h
def fsS (m:List (List Int)) (i:Nat) (o:List Int):List Int:=bif !iL (m.take i) (m.getD i [])then o++[(i:Int)]else o
def bQ (m:List (List Int)):List Int:=bL (fsS m) m.length 0 []
def qW (m:List (List Int)):Bool:=c7 (fun i=>lK (m.take i) (m.getD i [])) m.length
theorem a4V (m:List (List Int)) (hm:m.length≤1000) (hf:qW m=true):
  aS Tryz.prog 0 (.block 0 (.loop (a0 0 (a5 f158)))) (uB m 0 [] 0) fun e t=>e=.normal∧t=KO (bQ m).length (bQ m):=by
 refine(aS.count hT t54 bK (m:=0) (id:=0) (body:=a0 0 (a5 f158)) m.length (fun i o=>o.length≤i) (fun i o=>uB m o.length o i) (fun o=>KO o.length o) (fsS m) (a8 f158 0) (aA f158 0)
  (fun _ _=>[]) (fun _ _ _ _=>aI.nil) (fun i o hi h=> ?_) (fun o h=>⟨_,_,⟨_,_,SC m o.length o m.length,by simp,by simp⟩⟩)) [] (by simp)
 obtain⟨h1,h2,h3,h4,h5,h6⟩:=vG (aV hf i hi)
 unfold fsS
 cases hq:iL (m.take i) (m.getD i [])with
 |false=>
  refine⟨by simp;omega, ?_⟩
  have e:=SA m o.length o i
  rw[aB (by omega) (by omega),Int.toNat_natCast]at e
  rw[Bool.not_false,cond_true,List.length_append]
  refine⟨_,_,⟨_,_,e, ?_,by simp⟩⟩
  simp only[hq,h2,h5,h6,bS,rpS]
  omega
 |true=>
  refine⟨by rw[Bool.not_true,cond_false];omega, ?_⟩
  have e:=SB m o.length o i
  rw[aB (by omega) (by omega),Int.toNat_natCast]at e
  rw[Bool.not_true,cond_false]
  refine⟨_,_,⟨_,_,e, ?_,by simp⟩⟩
  simp only[hq,h2,h5,h6,bS,rpS]
  omega
theorem UF (m:List (List Int)):aD tt (a9 T54) ([(0,⟨a8 f158 0,uB m 0 [] 0,.normal,KO (bQ m).length (bQ m)⟩)]) 100 f158 [.c (.view none (.ivs .i64 m) m.length 1 none)] [] []=
  some ⟨.c (.sl 0 0 (bQ m).length 1 none),[.live (.ints .i64 (bQ m))],true,[uB m 0 [] 0=uB m 0 [] 0]⟩:=by kernel_rfl
def wA:aN:=fun args h=>
 match args,h with
 |[.c (.view _ (.ivs .i64 m) n 1 _)],[]=>
  some (.c (.sl 0 0 (bQ m).length 1 none),[.live (.ints .i64 (bQ m))],[decide (m.length≤1000),qW m])
 |_,_=>none
theorem a6B:aT Tryz.prog 191 wA:=by
 intro args h res h' o hnorm he ho
 unfold wA at he
 split at he
 case h_2=>cases he
 rename_i nl m n cap
 simp only[Option.some.injEq,Prod.mk.injEq]at he
 obtain⟨rfl,rfl,rfl⟩:=he
 simp only[List.mem_cons,List.not_mem_nil,or_false,forall_eq_or_imp,forall_eq,decide_eq_true_eq]at ho
 obtain⟨o1,o2⟩:=ho
 simp only[bE,AV.norm,bF,aF.norm,Con.size,List.cons.injEq,AV.c.injEq,AV.agg.injEq,aF.view.injEq,aL,true_and,and_true]at hnorm
 obtain⟨rfl,rfl,rfl⟩:=hnorm
 exact mo (fn:=f158) t54 (UF m) (by simp) (hlc:=(fun cc hcc=>aI.cons (c:=cc) (by cases hcc;kernel_rfl) (by cases hcc;exact a4V m o1 o2) aI.nil))
theorem sH (v w:List Int): ∀(f i:Nat) (n:Int),q6 v w f i n=bL (fun i n=>(n+v.getD i 0*w.getD i 0)%31) f i n
 |0,_,_=>rfl
 |f+1,i,n=>sH v w f (i+1) _
theorem WU (k:Int) (w:List Int) (c:List Bool) (n:Nat) (rows:List (List Int)) (g:Nat) (got:List Int) (i:Int) (b:List Int) (hb:b.length≤1000) (hg:g=got.length) (hl:b.length≤got.length) (h1:a7 b=true) (h2:a7 got=true):
  aS Tryz.prog 0 (.block 2 (.loop (a0 2 (a5 f104)))) (qU k w c n rows g got i b.length b 0 0) fun e t=>e=.normal∧t=uU k w c n rows g got i (aQ b got):=by
 have key:=aS.count hT t54 bK (m:=0) (id:=2) (body:=a0 2 (a5 f104)) b.length (fun _ x=>fok x=true) (fun j x=>qU k w c n rows g got i b.length b x j) (fun x=>uU k w c n rows g got i x) (fun i n=>(n+b.getD i 0*got.getD i 0)%31) (a8 f104 2) (aA f104 2)
  (fun _ _=>[]) (fun _ _ _ _=>aI.nil) (fun j x hj h=>⟨bY _, ?_⟩) (fun x h=>⟨_,_,⟨_,_,QI k w c n rows g got i b.length b x b.length,by simp,by simp⟩⟩) 0 rfl
 ·unfold aQ;rw[sH];exact key
 ·have e:=QH k w c n rows g got i b.length b x j
  rw[Int.toNat_natCast,sI h (aO h1 j) (aO h2 j),aB (by omega) (by omega)]at e
  refine⟨_,_,⟨_,_,e, ?_,by simp⟩⟩
  simp only[bS,rpS]
  omega
def sfS (k:Int) (w:List Int) (c:List Bool) (i:Nat) (s:List (List Int)×List Int):(List (List Int)×List Int)⊕Unit:=
 bif c.getD i false then(bif iL s.1 (aH k i)then(bif aQ (byD s.1 (aH k i)) s.2 !=w.getD i 0 then .inr ()else .inl s)else .inl (s.1++[aH k i],s.2++[w.getD i 0]))else .inl s
def sfL (k:Int) (w:List Int) (c:List Bool):Bool:=match dK (sfS k w c) 8 0 ([],[])with
 |.inl _=>true
 |.inr _=>false
def rwT (k:Int) (c:List Bool) (i:Nat) (rows:List (List Int)):List (List Int):=bif c.getD i false&& !iL rows (aH k i)then rows++[aH k i]else rows
def zM (k:Int) (c:List Bool):Nat→Nat→List (List Int)→Bool
 |0,_,_=>true
 |f+1,i,rows=>(bif c.getD i false then lK rows (aH k i)else true)&&zM k c f (i+1) (rwT k c i rows)
theorem DA {m:List (List Int)} {v:List Int} (hm:bT 4 m=true) (h1:v.length=4) (h2:a7 v=true):(byD m v).length≤m.length∧a7 (byD m v)=true:=by
 obtain⟨-,q1,q2⟩:=DB hm h1 h2
 unfold byD
 cases bet (b9 (byE m v).2) 0 3
 ·rw[cond_false];exact⟨by rw[fX,List.length_drop];omega,mJ _ _⟩
 ·exact⟨by simp,rfl⟩
theorem PS:a0 2 (a0 0 (a5 f104))=a0 2 (a5 f104):=by kernel_rfl
theorem a4E (k:Int) (w:List Int) (c:List Bool) (hk:bet k 1 2=true) (hw:w.length=8) (hf:a7 w=true) (hc:c.length=8) (ho:zM k c 8 0 []=true):
  aS Tryz.prog 0 (.block 0 (.loop (a0 0 (a5 f104)))) (lD k w c 0 [] 0 [] 0) fun e t=>e=(bif sfL k w c then .normal else .ret)∧t=bif sfL k w c then KB else KU:=by
 have key:=aS.countE hT t54 bK (m:=0) (id:=0) (body:=a0 0 (a5 f104)) (β:=List (List Int)×List Int) (γ:=Unit) 8
  (fun i s=>s.1.length≤i∧s.2.length=s.1.length∧bT 4 s.1=true∧a7 s.2=true∧zM k c (8-i) i s.1=true) (fun i s=>lD k w c s.1.length s.1 s.2.length s.2 i) (fun _=>KB) (fun _=>KU) .ret (.inr rfl) (sfS k w c) (a8 f104 0) (aA f104 0)
  (fun i s=>bif c.getD i false&&iL s.1 (aH k i)then [(2,⟨a8 f104 2,qU k w c s.1.length s.1 s.2.length s.2 i (byD s.1 (aH k i)).length (byD s.1 (aH k i)) 0 0,.normal,uU k w c s.1.length s.1 s.2.length s.2 i (aQ (byD s.1 (aH k i)) s.2)⟩)]else [])
  (fun i s hi h=> ?_) (fun i s hi h=> ?_) (fun s h=>⟨_,_,⟨_,_,M3 k w c s.1.length s.1 s.2.length s.2 (8:Nat),by simp,by simp⟩⟩) ([],[]) ⟨by simp,rfl,rfl,rfl,ho⟩
 ·refine aS.mono key fun e t h=> ?_
  unfold sfL
  revert h
  cases dK (sfS k w c) 8 0 ([],[])<;>exact fun h=>h
 ·obtain⟨h1,h2,h3,h4,h5⟩:=h
  have hb:bet (i:Int) 0 7=true:=aX.2 ⟨by omega,by omega⟩
  cases hx:c.getD i false&&iL s.1 (aH k i)with
  |false=>exact aI.nil
  |true=>
   obtain⟨q1,q2⟩:=DA h3 (iQ hk hb) (hC hk hb)
   exact aI.cons (by kernel_rfl) (by rw[PS];exact WU k w c s.1.length s.1 s.2.length s.2 i (byD s.1 (aH k i)) (by omega) rfl (by omega) q2 h4) aI.nil
 ·obtain⟨h1,h2,h3,h4,h5⟩:=h
  have hb:bet (i:Int) 0 7=true:=aX.2 ⟨by omega,by omega⟩
  have hb':=aX.1 hb
  rw[show 8-i=(8-(i+1))+1 from by omega]at h5
  simp only[zM,Bool.and_eq_true,rpS]at h5
  obtain⟨h5,h6⟩:=h5
  have g1:=iQ hk hb
  have g2:=hC hk hb
  cases hq:c.getD i false with
  |false=>
   refine .inl ⟨s,by simp only[sfS,hq,cond_false],⟨by omega,h2,h3,h4, ?_⟩, ?_⟩
   ·unfold rwT at h6;rw[hq,Bool.false_and,cond_false]at h6;exact h6
   ·have e:=M1 k w c s.1.length s.1 s.2.length s.2 i
    rw[aB (by omega) (by omega),Int.toNat_natCast]at e
    rw[Bool.false_and,cond_false]
    refine⟨_,_,⟨_,_,e, ?_,by simp⟩⟩
    simp only[hq,bS,rpS]
    omega
  |true=>
   rw[hq,cond_true]at h5
   obtain⟨z1,z2,z3,z4,z5,z6⟩:=vG h5
   cases hh:iL s.1 (aH k i)with
   |false=>
    refine .inl ⟨(s.1++[aH k i],s.2++[w.getD i 0]),by simp only[sfS,hq,hh,cond_true,cond_false],⟨by simp;omega,by simp;omega,mH h3 g1 g2,eE h4 (by simp[a7,aO hf,-List.getD_eq_getElem?_getD]), ?_⟩, ?_⟩
    ·unfold rwT at h6;rw[hq,hh,Bool.true_and,Bool.not_false,cond_true]at h6;exact h6
    ·have e:=M2 k w c s.1.length s.1 s.2.length s.2 i
     rw[aB (by omega) (by omega),Int.toNat_natCast]at e
     rw[Bool.true_and,cond_false]
     simp only[List.length_append,List.length_cons,List.length_nil]
     refine⟨_,_,⟨_,_,e, ?_,by simp⟩⟩
     simp only[hq,hh,hk,hb,g1,g2,z2,z4,z6,bS,rpS]
     rw[g1]at z5
     simp only[z5,bS,rpS]
     omega
   |true=>
    have z5':=z5
    rw[g1]at z5'
    cases hd:(aQ (byD s.1 (aH k i)) s.2 !=w.getD i 0)with
    |true=>
     refine .inr ⟨(),by simp only[sfS,hq,hh,hd,cond_true], ?_⟩
     have e:=R4 k w c s.1.length s.1 s.2.length s.2 i (aQ (byD s.1 (aH k i)) s.2)
     rw[Int.toNat_natCast]at e
     rw[Bool.true_and,cond_true,if_neg (by intro h;cases h)]
     refine⟨_,_,⟨_,_,e, ?_,by simp⟩⟩
     simp only[hq,hh,hk,hb,hd,g1,g2,h3,z2,z4,z5',z6,bS,rpS]
     omega
    |false=>
     refine .inl ⟨s,by simp only[sfS,hq,hh,hd,cond_true,cond_false],⟨by omega,h2,h3,h4, ?_⟩, ?_⟩
     ·unfold rwT at h6;rw[hq,hh,Bool.true_and,Bool.not_true,cond_false]at h6;exact h6
     ·have e:=R5 k w c s.1.length s.1 s.2.length s.2 i (aQ (byD s.1 (aH k i)) s.2)
      rw[aB (by omega) (by omega),Int.toNat_natCast]at e
      rw[Bool.true_and,cond_true]
      refine⟨_,_,⟨_,_,e, ?_,by simp⟩⟩
      simp only[hq,hh,hk,hb,hd,g1,g2,h3,z2,z4,z5',z6,bS,rpS]
      omega
def PC:aN:=fun args h=>
 match args,h with
 |[.c (.int .i64 k),.c (.view _ (.ints .i64 w) n1 1 _),.c (.view _ (.bools c) n2 1 _)],[]=>
  some (.c (.bool (sfL k w c)),[],[bet k 1 2,decide (w.length=8),a7 w,decide (c.length=8),zM k c 8 0 []])
 |_,_=>none
theorem X1:aT Tryz.prog 118 PC:=by
 intro args h res h' o hnorm he ho
 unfold PC at he
 split at he
 case h_2=>cases he
 rename_i k nl w n cap nl2 c n2 cap2
 simp only[Option.some.injEq,Prod.mk.injEq]at he
 obtain⟨rfl,rfl,rfl⟩:=he
 simp only[List.mem_cons,List.not_mem_nil,or_false,forall_eq_or_imp,forall_eq,decide_eq_true_eq]at ho
 obtain⟨o1,o2,o3,o4,o5⟩:=ho
 simp only[bE,AV.norm,bF,aF.norm,Con.size,List.cons.injEq,AV.c.injEq,AV.agg.injEq,aF.view.injEq,aL,true_and,and_true]at hnorm
 obtain⟨⟨rfl,rfl,rfl⟩,rfl,rfl,rfl⟩:=hnorm
 have g:=a4E k w c o1 o2 o3 o4 o5
 cases hx:sfL k w c with
 |true=>
  rw[hx]at g
  exact mo (fn:=f104) t54 (TG k w c) (by simp) (hlc:=(fun cc hcc=>aI.cons (c:=cc) (by cases hcc;kernel_rfl) (by cases hcc;exact g) aI.nil))
 |false=>
  rw[hx]at g
  exact mo (fn:=f104) t54 (NR k w c) (by simp) (hlc:=(fun cc hcc=>aI.cons (c:=cc) (by cases hcc;kernel_rfl) (by cases hcc;exact g) aI.nil))
noncomputable def T55:List bD:=[⟨191,[],nm wA⟩,⟨118,[],nm PC⟩]++T54
theorem e55:a6 Tryz.prog T55:=by
 refine a6.append ?_ e54
 intro e he
 simp only[List.mem_cons,List.not_mem_nil,or_false]at he
 rcases he with rfl|rfl
 ·exact a6B.ok
 ·exact X1.ok
theorem t55:bJ Tryz.prog (a9 T55):=aM e55
end
section
noncomputable def wW (n:Nat) (ats:List Int) (m:Nat) (fst:List Int) (g:Nat) (out:List Int) (i:Int):St:=
 aY f137.ntmps [(5,.c (.sl 0 0 n 1 none)),(7,.c (.sl 1 0 m 1 none)),(8,.c (.sl 2 0 g 1 none)),(9,.c (.int .i64 i))] [.live (.ints .i64 ats),.live (.ints .i64 fst),.live (.ints .i64 out)]
noncomputable def GR (g:Nat) (out:List Int):St:=aY f137.ntmps [(8,.c (.sl 0 0 g 1 none))] [.live (.ints .i64 out)]
theorem QK (n:Nat) (ats:List Int) (m:Nat) (fst:List Int) (g:Nat) (out:List Int) (i:Int):aC 0 (a8 f137 2) (aA f137 2) (aG tt (a9 T55) ([]) 0 100 (a0 2 (a5 f137)) (wW n ats m fst g out i) [(0,true)])=
  some (.normal,(decide (i<(↑m:Int))&&(decide (0≤i)&&(decide (i<(↑m:Int))&&(decide (i.toNat<fst.length)&&(decide (0≤fst.getD i.toNat 0)&&(decide (fst.getD i.toNat 0<(↑n:Int))&&(decide ((fst.getD i.toNat 0).toNat<ats.length)&&(decide (g=out.length)&&((decide (g+1≤274877906944))&&true))))))))),[],wW n ats m fst (g+1) (out++[ats.getD (fst.getD i.toNat 0).toNat 0]) (IntKind.i64.wrap (i+1))):=by kernel_rfl
theorem QL (n:Nat) (ats:List Int) (m:Nat) (fst:List Int) (g:Nat) (out:List Int) (i:Int):aC 0 (a8 f137 2) (aA f137 2) (aG tt (a9 T55) ([]) 0 100 (a0 2 (a5 f137)) (wW n ats m fst g out i) [(0,false)])=
  some (.exit 2,((!decide (i<(↑m:Int)))&&true),[],GR (g) (out)):=by kernel_rfl
noncomputable def yG (w fr:List Int) (n:Nat) (rows:List (List Int)) (g:Nat) (out:List Int) (i:Int):St:=
 aY f136.ntmps [(1,.c (.view none (.ints .i64 w) w.length 1 none)),(2,.c (.view none (.ints .i64 fr) fr.length 1 none)),(7,.c (.sl 0 0 n 1 none)),(9,.c (.sl 1 0 g 1 none)),(10,.c (.int .i64 i))] [.live (.ivs .i64 rows),.live (.ints .i64 out)]
noncomputable def E7 (g:Nat) (out:List Int):St:=aY f136.ntmps [(9,.c (.sl 0 0 g 1 none))] [.live (.ints .i64 out)]
noncomputable def wX (w fr:List Int) (n:Nat) (rows:List (List Int)) (g:Nat) (out:List Int) (i:Int) (b:Nat) (by_:List Int) (x j:Int):St:=
 aY f136.ntmps [(1,.c (.view none (.ints .i64 w) w.length 1 none)),(2,.c (.view none (.ints .i64 fr) fr.length 1 none)),(7,.c (.sl 0 0 n 1 none)),(9,.c (.sl 1 0 g 1 none)),(10,.c (.int .i64 i)),(13,.c (.sl 2 0 b 1 none)),(15,.c (.int .i64 x)),(16,.c (.int .i64 j))]
  [.live (.ivs .i64 rows),.live (.ints .i64 out),.live (.ints .i64 by_)]
noncomputable def GW (w fr:List Int) (n:Nat) (rows:List (List Int)) (g:Nat) (out:List Int) (i x:Int):St:=
 aY f136.ntmps [(1,.c (.view none (.ints .i64 w) w.length 1 none)),(2,.c (.view none (.ints .i64 fr) fr.length 1 none)),(7,.c (.sl 0 0 n 1 none)),(9,.c (.sl 1 0 g 1 none)),(10,.c (.int .i64 i)),(15,.c (.int .i64 x))]
  [.live (.ivs .i64 rows),.live (.ints .i64 out)]
theorem QQ (w fr:List Int) (n:Nat) (rows:List (List Int)) (g:Nat) (out:List Int) (i:Int) (b:Nat) (by_:List Int) (x j:Int):aC 0 (a8 f136 4) (aA f136 4) (aG tt (a9 T55) ([]) 0 100 (a0 4 (a5 f136)) (wX w fr n rows g out i b by_ x j) [(0,true)])=
  some (.normal,(decide (j<(↑fr.length:Int))&&(decide (0≤j)&&(decide (j<(↑b:Int))&&(decide (j.toNat<by_.length)&&(decide (0≤j)&&(decide (j<(↑fr.length:Int))&&(decide (j.toNat<fr.length)&&(decide (0≤fr.getD j.toNat 0)&&(decide (fr.getD j.toNat 0<(↑w.length:Int))&&((decide ((fr.getD j.toNat 0).toNat<w.length))&&true)))))))))),[],wX w fr (n) (rows) (g) (out) (i) (b) (by_) ((IntKind.i64.wrap (x+IntKind.i64.wrap (by_.getD j.toNat 0*w.getD (fr.getD j.toNat 0).toNat 0))).tmod 31) (IntKind.i64.wrap (j+1))):=by kernel_rfl
theorem QR (w fr:List Int) (n:Nat) (rows:List (List Int)) (g:Nat) (out:List Int) (i:Int) (b:Nat) (by_:List Int) (x j:Int):aC 0 (a8 f136 4) (aA f136 4) (aG tt (a9 T55) ([]) 0 100 (a0 4 (a5 f136)) (wX w fr n rows g out i b by_ x j) [(0,false)])=
  some (.exit 4,((!decide (j<(↑fr.length:Int)))&&true),[],GW w fr (n) (rows) (g) (out) (i) (x)):=by kernel_rfl
theorem QJ (w fr:List Int) (n:Nat) (rows:List (List Int)) (g:Nat) (out:List Int) (i x:Int):aC 0 (a8 f136 2) (aA f136 2) (aG tt (a9 T55) ([(4,⟨a8 f136 4,wX w fr n rows g out i (byD rows (unL i)).length (byD rows (unL i)) 0 0,.normal,GW w fr n rows g out i x⟩)]) 0 100 (a0 2 (a5 f136)) (yG w fr n rows g out i) [(0,true)])=
  some (.normal,(decide (i<4)&&(bet i 0 3&&(decide (n=rows.length)&&(decide (rows.length≤1000)&&(bT 4 rows&&(decide ((unL i).length=4)&&(a7 (unL i)&&(decide (g=out.length)&&((decide (g+1≤274877906944))&&true))))))))),[wX w fr n rows g out i (byD rows (unL i)).length (byD rows (unL i)) 0 0=wX w fr n rows g out i (byD rows (unL i)).length (byD rows (unL i)) 0 0],yG w fr (n) (rows) (g+1) (out++[x]) (IntKind.i64.wrap (i+1))):=by kernel_rfl
theorem LO (w fr:List Int) (n:Nat) (rows:List (List Int)) (g:Nat) (out:List Int) (i:Int):aC 0 (a8 f136 2) (aA f136 2) (aG tt (a9 T55) ([]) 0 100 (a0 2 (a5 f136)) (yG w fr n rows g out i) [(0,false)])=
  some (.exit 2,((!decide (i<4))&&true),[],E7 (g) (out)):=by kernel_rfl
theorem U5 (k:Int) (w fr:List Int) (rows:List (List Int)) (out:List Int):aD tt (a9 T55) ([(0,⟨a8 f136 0,yB k w fr 0 [] 0,.normal,KJ w fr rows.length rows⟩),(2,⟨a8 f136 2,yG w fr rows.length rows 0 [] 0,.normal,E7 4 out⟩)]) 100 f136 [.c (.int .i64 k),.c (.view none (.ints .i64 w) w.length 1 none),.c (.view none (.ints .i64 fr) fr.length 1 none)] [] []=
  some ⟨.c (.sl 0 0 4 1 none),[.live (.ints .i64 out)],true,[yB k w fr 0 [] 0=yB k w fr 0 [] 0,yG w fr rows.length rows 0 [] 0=yG w fr rows.length rows 0 [] 0]⟩:=by kernel_rfl
theorem U6 (k:Int) (c:List Bool) (ats out:List Int):aD tt (a9 T55) ([(0,⟨a8 f137 0,u9 k c 0 [] 0,.normal,KL k c ats.length ats⟩),(2,⟨a8 f137 2,wW ats.length ats (bQ (rwL k c)).length (bQ (rwL k c)) 0 [] 0,.normal,GR out.length out⟩)]) 100 f137 [.c (.int .i64 k),.c (.view none (.bools c) c.length 1 none)] [] []=
  some ⟨.c (.sl 0 0 out.length 1 none),[.live (.ints .i64 out)],(bet k 1 2&&(decide (c.length=8)&&(decide ((rwL k c).length≤1000)&&((qW (rwL k c))&&true)))),[u9 k c 0 [] 0=u9 k c 0 [] 0,wW ats.length ats (bQ (rwL k c)).length (bQ (rwL k c)) 0 [] 0=wW ats.length ats (bQ (rwL k c)).length (bQ (rwL k c)) 0 [] 0]⟩:=by kernel_rfl
end
section
def faS (c:List Bool) (i:Nat) (o:List Int):List Int:=bif c.getD i false then o++[(i:Int)]else o
theorem HN (c:List Bool): ∀(f i:Nat) (o:List Int),bL (faS c) f i o=o++dY c f i
 |0,i,o=>by simp[bL,dY]
 |f+1,i,o=>by
  have e:bL (faS c) (f+1) i o=bL (faS c) f (i+1) (faS c i o):=rfl
  rw[e,HN c f (i+1)]
  simp only[dY,faS]
  cases c.getD i false<;>simp
theorem LE {c:List Bool} (hc:c.length=8):bL (faS c) 8 0 []=flg c:=by rw[HN,flg,hc];rfl
theorem a4P (k:Int) (c:List Bool) (hc:c.length=8):
  aS Tryz.prog 0 (.block 0 (.loop (a0 0 (a5 f137)))) (u9 k c 0 [] 0) fun e t=>e=.normal∧t=KL k c (flg c).length (flg c):=by
 have key:=aS.count hT t54 bK (m:=0) (id:=0) (body:=a0 0 (a5 f137)) 8 (fun i o=>o.length≤i) (fun i o=>u9 k c o.length o i) (fun o=>KL k c o.length o) (faS c) (a8 f137 0) (aA f137 0)
  (fun _ _=>[]) (fun _ _ _ _=>aI.nil) (fun i o hi h=> ?_) (fun o h=>⟨_,_,⟨_,_,RW k c o.length o (8:Nat),by simp,by simp⟩⟩) [] (by simp)
 ·rw[LE hc]at key;exact key
 ·unfold faS
  cases hq:c.getD i false with
  |true=>
   refine⟨by simp;omega, ?_⟩
   have e:=RU k c o.length o i
   rw[aB (by omega) (by omega),Int.toNat_natCast]at e
   rw[cond_true,List.length_append]
   refine⟨_,_,⟨_,_,e, ?_,by simp⟩⟩
   simp only[hq,bS,rpS]
   omega
  |false=>
   refine⟨by rw[cond_false];omega, ?_⟩
   have e:=RV k c o.length o i
   rw[aB (by omega) (by omega),Int.toNat_natCast]at e
   rw[cond_false]
   refine⟨_,_,⟨_,_,e, ?_,by simp⟩⟩
   simp only[hq,bS,rpS]
   omega
def frS (c:List Bool) (fst:List Int) (i:Nat) (o:List Int):List Int:=o++[(flg c).getD (fst.getD i 0).toNat 0]
def frL (k:Int) (c:List Bool):List Int:=bL (frS c (bQ (rwL k c))) (bQ (rwL k c)).length 0 []
theorem kV (k:Int) (c:List Bool):(frL k c).length=(bQ (rwL k c)).length:=
 bB (step:=frS c (bQ (rwL k c))) (fun i o=>o.length=i) _ [] rfl fun i o _ h=>by simp[frS,h]
theorem WX (ats c:List Int) (fst:List Int) (cc:List Bool) (ha:ats=flg cc) (hf:fst.length≤1000) (hp:d7 fst ats.length=true):
  aS Tryz.prog 0 (.block 2 (.loop (a0 2 (a5 f137)))) (wW ats.length ats fst.length fst 0 [] 0) fun e t=>e=.normal∧t=GR fst.length (bL (frS cc fst) fst.length 0 []):=by
 have hl:(bL (frS cc fst) fst.length 0 []).length=fst.length:=bB (step:=frS cc fst) (fun i o=>o.length=i) _ [] rfl fun i o _ h=>by simp[frS,h]
 have key:=aS.count hT t55 bK (m:=0) (id:=2) (body:=a0 2 (a5 f137)) fst.length (fun i o=>o.length=i) (fun i o=>wW ats.length ats fst.length fst o.length o i) (fun o=>GR o.length o) (frS cc fst) (a8 f137 2) (aA f137 2)
  (fun _ _=>[]) (fun _ _ _ _=>aI.nil) (fun i o hi h=>⟨by simp[frS,h], ?_⟩) (fun o h=>⟨_,_,⟨_,_,QL ats.length ats fst.length fst o.length o fst.length,by simp,by simp⟩⟩) [] rfl
 ·rw[hl]at key;exact key
 ·have hp':=gY hp hi
  have e:=QK ats.length ats fst.length fst o.length o i
  rw[aB (by omega) (by omega),Int.toNat_natCast]at e
  unfold frS
  rw[List.length_append,←ha]
  refine⟨_,_,⟨_,_,e, ?_,by simp⟩⟩
  simp only[bS,rpS]
  omega
def AT:aN:=fun args h=>
 match args,h with
 |[.c (.int .i64 k),.c (.view _ (.bools c) n 1 _)],[]=>
  some (.c (.sl 0 0 (frL k c).length 1 none),[.live (.ints .i64 (frL k c))],[bet k 1 2,decide (c.length=8),decide ((rwL k c).length≤1000),qW (rwL k c),d7 (bQ (rwL k c)) (flg c).length,decide ((bQ (rwL k c)).length≤1000)])
 |_,_=>none
theorem a5U:aT Tryz.prog 159 AT:=by
 intro args h res h' o hnorm he ho
 unfold AT at he
 split at he
 case h_2=>cases he
 rename_i k nl c n cap
 simp only[Option.some.injEq,Prod.mk.injEq]at he
 obtain⟨rfl,rfl,rfl⟩:=he
 simp only[List.mem_cons,List.not_mem_nil,or_false,forall_eq_or_imp,forall_eq,decide_eq_true_eq]at ho
 obtain⟨o1,o2,o3,o4,o5,o6⟩:=ho
 simp only[bE,AV.norm,bF,aF.norm,Con.size,List.cons.injEq,AV.c.injEq,AV.agg.injEq,aF.view.injEq,aL,true_and,and_true]at hnorm
 obtain⟨rfl,rfl,rfl⟩:=hnorm
 have g:=WX (flg c) [] (bQ (rwL k c)) c rfl o6 o5
 have e:=U6 k c (flg c) (frL k c)
 rw[←kV k c]at g
 have g':aS Tryz.prog 0 (.block 2 (.loop (a0 2 (a5 f137)))) (wW (flg c).length (flg c) (bQ (rwL k c)).length (bQ (rwL k c)) 0 [] 0) fun e t=>e=.normal∧t=GR (frL k c).length (frL k c):=by rw[kV];rw[kV]at g;exact g
 exact mo (fn:=f137) t55 e (by simp only[o1,o2,o4,bS,rpS];omega) (hlc:=(fun cc hcc=>aI.cons (c:=cc) (by cases hcc;kernel_rfl) (by cases hcc;exact a4P k c o2) (aI.cons (by cases hcc;kernel_rfl) (by cases hcc;exact g') aI.nil)))
def rfS (k:Int) (fr:List Int) (i:Nat) (o:List (List Int)):List (List Int):=o++[aH k (fr.getD i 0)]
def rfL (k:Int) (fr:List Int):List (List Int):=bL (rfS k fr) fr.length 0 []
theorem E1 {k:Int} {fr:List Int} (hk:bet k 1 2=true) (hf:aK fr=true):(rfL k fr).length=fr.length∧bT 4 (rfL k fr)=true:=
 bB (step:=rfS k fr) (fun i o=>o.length=i∧bT 4 o=true) fr.length [] ⟨rfl,rfl⟩ fun i o hi h=>by
  have hb:=cA hf hi
  exact⟨by simp[rfS,h.1],mH h.2 (iQ hk hb) (hC hk hb)⟩
theorem a4O (k:Int) (w fr:List Int) (hk:bet k 1 2=true) (hf:aK fr=true) (hl:fr.length≤1000):
  aS Tryz.prog 0 (.block 0 (.loop (a0 0 (a5 f136)))) (yB k w fr 0 [] 0) fun e t=>e=.normal∧t=KJ w fr (rfL k fr).length (rfL k fr):=by
 refine aS.count hT t54 bK (m:=0) (id:=0) (body:=a0 0 (a5 f136)) fr.length (fun i o=>o.length=i) (fun i o=>yB k w fr o.length o i) (fun o=>KJ w fr o.length o) (rfS k fr) (a8 f136 0) (aA f136 0)
  (fun _ _=>[]) (fun _ _ _ _=>aI.nil) (fun i o hi h=>⟨by simp[rfS,h], ?_⟩) (fun o h=>⟨_,_,⟨_,_,RT k w fr o.length o fr.length,by simp,by simp⟩⟩) [] rfl
 have hb:=cA hf hi
 have e:=RS k w fr o.length o i
 rw[aB (by omega) (by omega),Int.toNat_natCast]at e
 unfold rfS
 rw[List.length_append]
 refine⟨_,_,⟨_,_,e, ?_,by simp⟩⟩
 simp only[hk,hb,bS,rpS]
 omega
def dtS (b w fr:List Int) (j:Nat) (n:Int):Int:=(n+b.getD j 0*w.getD (fr.getD j 0).toNat 0)%31
def dtN (b w fr:List Int):Int:=bL (dtS b w fr) fr.length 0 0
theorem WZ (w fr:List Int) (n:Nat) (rows:List (List Int)) (g:Nat) (out:List Int) (i:Int) (b:List Int) (hl:fr.length≤1000) (hb:fr.length≤b.length) (h1:a7 b=true) (h2:a7 w=true) (hw:w.length=8) (hf:aK fr=true):
  aS Tryz.prog 0 (.block 4 (.loop (a0 4 (a5 f136)))) (wX w fr n rows g out i b.length b 0 0) fun e t=>e=.normal∧t=GW w fr n rows g out i (dtN b w fr):=by
 refine aS.count hT t55 bK (m:=0) (id:=4) (body:=a0 4 (a5 f136)) fr.length (fun _ x=>fok x=true) (fun j x=>wX w fr n rows g out i b.length b x j) (fun x=>GW w fr n rows g out i x) (dtS b w fr) (a8 f136 4) (aA f136 4)
  (fun _ _=>[]) (fun _ _ _ _=>aI.nil) (fun j x hj h=>⟨bY _, ?_⟩) (fun x h=>⟨_,_,⟨_,_,QR w fr n rows g out i b.length b x fr.length,by simp,by simp⟩⟩) 0 rfl
 have hs:=aX.1 (cA hf hj)
 have e:=QQ w fr n rows g out i b.length b x j
 rw[Int.toNat_natCast,sI h (aO h1 j) (aO h2 _),aB (by omega) (by omega)]at e
 refine⟨_,_,⟨_,_,e, ?_,by simp⟩⟩
 simp only[bS,rpS]
 omega
def dlS (k:Int) (w fr:List Int) (i:Nat) (o:List Int):List Int:=o++[dtN (byD (rfL k fr) (unL i)) w fr]
def dlL (k:Int) (w fr:List Int):List Int:=bL (dlS k w fr) 4 0 []
theorem JY {i:Nat} (hi:i<4):(unL i).length=4∧a7 (unL i)=true:=by
 refine⟨by simp[unL], ?_⟩
 match i,hi with
 |0,_|1,_|2,_|3,_=>rfl
theorem L0:a0 4 (a0 2 (a5 f136))=a0 4 (a5 f136):=by kernel_rfl
theorem WW (k:Int) (w fr:List Int) (hk:bet k 1 2=true) (hf:aK fr=true) (hl:fr.length≤8) (h2:a7 w=true) (hw:w.length=8) (hb:c7 (fun i=>Nat.ble fr.length (byD (rfL k fr) (unL i)).length) 4=true):
  aS Tryz.prog 0 (.block 2 (.loop (a0 2 (a5 f136)))) (yG w fr (rfL k fr).length (rfL k fr) 0 [] 0) fun e t=>e=.normal∧t=E7 4 (dlL k w fr):=by
 obtain⟨r1,r2⟩:=E1 hk hf
 have hl4:(dlL k w fr).length=4:=bB (step:=dlS k w fr) (fun i o=>o.length=i) 4 [] rfl fun i o _ h=>by simp[dlS,h]
 have key:=aS.count hT t55 bK (m:=0) (id:=2) (body:=a0 2 (a5 f136)) 4 (fun i o=>o.length=i) (fun i o=>yG w fr (rfL k fr).length (rfL k fr) o.length o i) (fun o=>E7 o.length o) (dlS k w fr) (a8 f136 2) (aA f136 2)
  (fun i o=>[(4,⟨a8 f136 4,wX w fr (rfL k fr).length (rfL k fr) o.length o i (byD (rfL k fr) (unL i)).length (byD (rfL k fr) (unL i)) 0 0,.normal,GW w fr (rfL k fr).length (rfL k fr) o.length o i (dtN (byD (rfL k fr) (unL i)) w fr)⟩)])
  (fun i o hi h=> ?_) (fun i o hi h=>⟨by simp[dlS,h], ?_⟩) (fun o h=>⟨_,_,⟨_,_,LO w fr (rfL k fr).length (rfL k fr) o.length o (4:Nat),by simp,by simp⟩⟩) [] rfl
 ·have e:E7 (bL (dlS k w fr) 4 0 []).length (bL (dlS k w fr) 4 0 [])=E7 4 (dlL k w fr):=by
   have:(bL (dlS k w fr) 4 0 []).length=4:=hl4
   rw[this];rfl
  rw[e]at key;exact key
 ·obtain⟨u1,u2⟩:=JY hi
  obtain⟨q1,q2⟩:=DA r2 u1 u2
  have hbi:=Nat.le_of_ble_eq_true (aV hb i hi)
  exact aI.cons (by kernel_rfl) (by rw[L0];exact WZ w fr (rfL k fr).length (rfL k fr) o.length o i (byD (rfL k fr) (unL i)) (by omega) hbi q2 h2 hw hf) aI.nil
 ·obtain⟨u1,u2⟩:=JY hi
  have hbt:bet (i:Int) 0 3=true:=aX.2 ⟨by omega,by omega⟩
  have e:=QJ w fr (rfL k fr).length (rfL k fr) o.length o i (dtN (byD (rfL k fr) (unL i)) w fr)
  rw[aB (by omega) (by omega)]at e
  unfold dlS
  rw[List.length_append]
  refine⟨_,_,⟨_,_,e, ?_,by simp⟩⟩
  simp only[hbt,u1,u2,r1,r2,bS,rpS]
  omega
def AQ:aN:=fun args h=>
 match args,h with
 |[.c (.int .i64 k),.c (.view _ (.ints .i64 w) n1 1 _),.c (.view _ (.ints .i64 fr) n2 1 _)],[]=>
  some (.c (.sl 0 0 4 1 none),[.live (.ints .i64 (dlL k w fr))],[bet k 1 2,aK fr,decide (fr.length≤8),a7 w,decide (w.length=8),c7 (fun i=>Nat.ble fr.length (byD (rfL k fr) (unL i)).length) 4])
 |_,_=>none
theorem a5T:aT Tryz.prog 158 AQ:=by
 intro args h res h' o hnorm he ho
 unfold AQ at he
 split at he
 case h_2=>cases he
 rename_i k nl w n1 cap nl2 fr n2 cap2
 simp only[Option.some.injEq,Prod.mk.injEq]at he
 obtain⟨rfl,rfl,rfl⟩:=he
 simp only[List.mem_cons,List.not_mem_nil,or_false,forall_eq_or_imp,forall_eq,decide_eq_true_eq]at ho
 obtain⟨o1,o2,o3,o4,o5,o6⟩:=ho
 simp only[bE,AV.norm,bF,aF.norm,Con.size,List.cons.injEq,AV.c.injEq,AV.agg.injEq,aF.view.injEq,aL,true_and,and_true]at hnorm
 obtain⟨⟨rfl,rfl,rfl⟩,rfl,rfl,rfl⟩:=hnorm
 exact mo (fn:=f136) t55 (U5 k w fr (rfL k fr) (dlL k w fr)) (by simp) (hlc:=(fun cc hcc=>aI.cons (c:=cc) (by cases hcc;kernel_rfl) (by cases hcc;exact a4O k w fr o1 o2 (by omega)) (aI.cons (by cases hcc;kernel_rfl) (by cases hcc;exact WW k w fr o1 o2 o3 o4 o5 o6) aI.nil)))
noncomputable def T56:List bD:=[⟨159,[],nm AT⟩,⟨158,[],nm AQ⟩]++T55
theorem e56:a6 Tryz.prog T56:=by
 refine a6.append ?_ e55
 intro e he
 simp only[List.mem_cons,List.not_mem_nil,or_false]at he
 rcases he with rfl|rfl
 ·exact a5U.ok
 ·exact a5T.ok
end
section
def okC (v:List Int) (out:List (List Int)):Bool:=decide (v.length≤274877906944)&&(decide (out.length≤1000)&&(iU v.length out&&a7 v))
theorem oD (m:List (List Int)) (f i:Nat) (out:List (List Int)):cY m (f+1) i out=(okC (m.getD i []) out&&cY m f (i+1) (hG m i out)):=by
 rw[cY,okC]
theorem AA (m:List (List Int)) (x:List (List Int)): ∀(f i:Nat) (out:List (List Int)),i+f≤m.length→cY (m++x) f i out=cY m f i out∧bL (hG (m++x)) f i out=bL (hG m) f i out:=by
 intro f
 induction f with
 |zero=>intro i out h;exact⟨by rw[cY,cY],by rw[bL,bL]⟩
 |succ f ih=>
  intro i out h
  have e:(m++x).getD i []=m.getD i []:=by
   rw[List.getD_eq_getElem?_getD,List.getD_eq_getElem?_getD,List.getElem?_append_left (by omega)]
  have et:hG (m++x) i out=hG m i out:=by unfold hG;rw[e]
  obtain⟨i1,i2⟩:=ih (i+1) (hG m i out) (by omega)
  refine⟨?_, ?_⟩
  ·rw[oD,oD,e,et,i1]
  ·rw[bL,bL,et,i2]
theorem oC (m:List (List Int)): ∀(f i:Nat) (out:List (List Int)),cY m (f+1) i out=(cY m f i out&&okC (m.getD (i+f) []) (bL (hG m) f i out))∧bL (hG m) (f+1) i out=hG m (i+f) (bL (hG m) f i out)
 |0,i,out=>by
  refine⟨?_,rfl⟩
  simp only[cY,Bool.and_true,rpS,Bool.true_and,Nat.add_zero,okC];rfl
 |f+1,i,out=>by
  obtain⟨i1,i2⟩:=oC m f (i+1) (hG m i out)
  refine⟨?_, ?_⟩
  ·have e:cY m (f+1+1) i out=((decide ((m.getD i []).length≤274877906944)&&(decide (out.length≤1000)&&(iU (m.getD i []).length out&&a7 (m.getD i []))))&&cY m (f+1) (i+1) (hG m i out)):=rfl
   have e2:cY m (f+1) i out=((decide ((m.getD i []).length≤274877906944)&&(decide (out.length≤1000)&&(iU (m.getD i []).length out&&a7 (m.getD i []))))&&cY m f (i+1) (hG m i out)):=rfl
   have e3:bL (hG m) (f+1) i out=bL (hG m) f (i+1) (hG m i out):=rfl
   rw[e,i1,e2,e3,show i+(f+1)=i+1+f from by omega]
   simp only[Bool.and_assoc]
  ·show bL (hG m) (f+1) (i+1) (hG m i out)=_
   rw[i2,show i+1+f=i+(f+1)from by omega];rfl
theorem AB (m:List (List Int)) (v:List Int):eL (m++[v])=(eL m&&okC v (cJ m))∧cJ (m++[v])=jS (cJ m) v:=by
 have hl:(m++[v]).length=m.length+1:=by simp
 obtain⟨s1,s2⟩:=oC (m++[v]) m.length 0 []
 obtain⟨a1,a2⟩:=AA m [v] m.length 0 [] (by omega)
 have e:(m++[v]).getD (0+m.length) []=v:=by
  rw[Nat.zero_add,List.getD_eq_getElem?_getD,List.getElem?_append_right (Nat.le_refl _)];simp
 unfold eL cJ
 rw[hl,s1,s2,a1,a2,e]
 refine⟨rfl, ?_⟩
 unfold hG
 rw[e]
theorem CU {m:List (List Int)} {n:Nat} (h:n<m.length):m.take (n+1)=m.take n++[m.getD n []]:=by
 rw[List.take_add_one,List.getD_eq_getElem?_getD,List.getElem?_eq_getElem h];rfl
def fsG (m:List (List Int)):Nat→Nat→List (List Int)→List Int→(List (List Int)→List Int→Bool)→Bool
 |0,_,t,o,k=>k t o
 |f+1,i,t,o,k=>(okC (m.getD i []) t&&decide ((m.getD i []).length≤1000))&&fLL (jS t (m.getD i [])) fun t'=>bif Nat.beq t'.length t.length then fsG m f (i+1) t' o k else fsG m f (i+1) t' (o++[(i:Int)]) k
theorem z9 (m:List (List Int)) (hm:m.length≤1000) (k:List (List Int)→List Int→Bool): ∀(f i:Nat) (o:List Int),i+f=m.length→eL (m.take i)=true→fsG m f i (cJ (m.take i)) o k=true→
  (∀j,i≤j→j<m.length→lK (m.take j) (m.getD j [])=true)∧eL m=true∧k (cJ m) (bL (fsS m) f i o)=true
 |0,i,o,h,ht,hg=>by
  have e:m.take i=m:=List.take_of_length_le (by omega)
  rw[e]at ht hg
  exact⟨fun j h1 h2=>by omega,ht,hg⟩
 |f+1,i,o,h,ht,hg=>by
  have hi:i<m.length:=by omega
  simp only[fsG,j5,Bool.and_eq_true,rpS,decide_eq_true_eq]at hg
  obtain⟨⟨h1,h2⟩,h3⟩:=hg
  obtain⟨s1,s2⟩:=AB (m.take i) (m.getD i [])
  rw[←CU hi]at s1 s2
  have ht':eL (m.take (i+1))=true:=by rw[s1,ht,h1];rfl
  have h1':=h1
  simp only[okC,Bool.and_eq_true,rpS,decide_eq_true_eq]at h1'
  have hh:lK (m.take i) (m.getD i [])=true:=by
   simp only[lK,Bool.and_eq_true,rpS,decide_eq_true_eq]
   exact⟨by rw[List.length_take];omega,ht,h2,h1'.2.1,h1'.2.2.1,h1'.2.2.2⟩
  have e:iL (m.take i) (m.getD i [])=Nat.beq (jS (cJ (m.take i)) (m.getD i [])).length (cJ (m.take i)).length:=by
   unfold iL
   rw[Bool.eq_iff_iff,beq_iff_eq,Nat.beq_eq]
   omega
  have go: ∀o',fsG m f (i+1) (jS (cJ (m.take i)) (m.getD i [])) o' k=true→fsS m i o=o'→(∀j,i≤j→j<m.length→lK (m.take j) (m.getD j [])=true)∧eL m=true∧k (cJ m) (bL (fsS m) (f+1) i o)=true:=fun o' hg he=>by
   rw[←s2]at hg
   obtain⟨r1,r2,r3⟩:=z9 m hm k f (i+1) o' (by omega) ht' hg
   refine⟨fun j j1 j2=> ?_,r2, ?_⟩
   ·by_cases ej:j=i
    ·subst ej;exact hh
    ·exact r1 j (by omega) j2
   ·show k (cJ m) (bL (fsS m) f (i+1) (fsS m i o))=true
    rw[he];exact r3
  cases hb:Nat.beq (jS (cJ (m.take i)) (m.getD i [])).length (cJ (m.take i)).length with
  |true=>rw[hb]at h3;exact go o h3 (by unfold fsS;rw[e,hb];rfl)
  |false=>rw[hb]at h3;exact go _ h3 (by unfold fsS;rw[e,hb];rfl)
def DI (k:Int) (rows:List (List Int)) (i:Nat):Bool:=fL (byD rows (aH k i)) fun b=>Nat.beq b.length rows.length&&c7 (fun q=>xP (r6 (fun j=>b.getD j 0*(rows.getD j []).getD q 0) rows.length-(aH k i).getD q 0)) 4
def okG (k:Int) (c:List Bool):Nat→Nat→List (List Int)→List (List Int)→(List (List Int)→Bool)→Bool
 |0,_,rows,t,K=>K rows
 |f+1,i,rows,t,K=>bif c.getD i false then((decide (rows.length≤1000)&&(okC (aH k i) t&&decide ((aH k i).length≤1000)))&&fLL (jS t (aH k i)) fun t'=>bif Nat.beq t'.length t.length then DI k rows i&&okG k c f (i+1) rows t K else okG k c f (i+1) (rows++[aH k i]) t' K)else okG k c f (i+1) rows t K
def yQ (k:Int) (c:List Bool):Nat→Nat→List (List Int)→Bool
 |0,_,_=>true
 |f+1,i,rows=>(bif c.getD i false&&iL rows (aH k i)then DI k rows i else true)&&yQ k c f (i+1) (rwT k c i rows)
theorem nP (k:Int) (c:List Bool) (K:List (List Int)→Bool): ∀(f i:Nat) (rows:List (List Int)),eL rows=true→okG k c f i rows (cJ rows) K=true→
  zM k c f i rows=true∧yQ k c f i rows=true∧K (bL (rwT k c) f i rows)=true
 |0,i,rows,ht,h=>⟨rfl,rfl,h⟩
 |f+1,i,rows,ht,h=>by
  simp only[okG,zM,yQ]at h⊢
  have er:bL (rwT k c) (f+1) i rows=bL (rwT k c) f (i+1) (rwT k c i rows):=rfl
  rw[er]
  cases hc:c.getD i false with
  |false=>
   rw[hc,cond_false]at h
   have e:rwT k c i rows=rows:=by unfold rwT;rw[hc];rfl
   rw[e]
   simpa using nP k c K f (i+1) rows ht h
  |true=>
   rw[hc,cond_true]at h
   simp only[j5,Bool.and_eq_true,rpS,decide_eq_true_eq]at h
   obtain⟨⟨h0,h1,h2⟩,h3⟩:=h
   have h1':=h1
   simp only[okC,Bool.and_eq_true,rpS,decide_eq_true_eq]at h1'
   have hh:lK rows (aH k i)=true:=by
    simp only[lK,Bool.and_eq_true,rpS,decide_eq_true_eq]
    exact⟨h0,ht,h2,h1'.2.1,h1'.2.2.1,h1'.2.2.2⟩
   have e:iL rows (aH k i)=Nat.beq (jS (cJ rows) (aH k i)).length (cJ rows).length:=by
    unfold iL
    rw[Bool.eq_iff_iff,beq_iff_eq,Nat.beq_eq]
    omega
   obtain⟨s1,s2⟩:=AB rows (aH k i)
   cases hb:Nat.beq (jS (cJ rows) (aH k i)).length (cJ rows).length with
   |true=>
    rw[hb,cond_true,Bool.and_eq_true]at h3
    have er:rwT k c i rows=rows:=by unfold rwT;rw[hc,e,hb];rfl
    rw[er]
    obtain⟨r1,r2,r3⟩:=nP k c K f (i+1) rows ht h3.2
    refine⟨by simp[hh,r1],by rw[e,hb];simp[h3.1,r2],r3⟩
   |false=>
    rw[hb,cond_false,←s2]at h3
    have er:rwT k c i rows=rows++[aH k i]:=by unfold rwT;rw[hc,e,hb];rfl
    rw[er]
    obtain⟨r1,r2,r3⟩:=nP k c K f (i+1) (rows++[aH k i]) (by rw[s1,ht,h1];rfl) h3
    refine⟨by simp[hh,r1],by rw[e,hb];simp[r2],r3⟩
def EK (k:Int):Nat→Nat→List (List Int)→List Int→(List Int→Bool)→Bool
 |0,_,t,T,K=>K T
 |f+1,i,t,T,K=>bif Nat.ble 4 T.length then K T else fLL (jS t (aH k i)) fun t'=>bif Nat.beq t'.length t.length then EK k f (i+1) t T K else EK k f (i+1) t' (T++[(i:Int)]) K
theorem oS (k:Int) (K:List Int→Bool): ∀(f i:Nat) (t:List (List Int)) (T:List Int),EK k f i t T K=true→ ∃X,K (T++X)=true∧(4≤T.length→X=[])
 |0,i,t,T,h=>⟨[],by simpa [EK]using h,fun _=>rfl⟩
 |f+1,i,t,T,h=>by
  simp only[EK,j5]at h
  cases hl:Nat.ble 4 T.length with
  |true=>rw[hl]at h;exact⟨[],by simpa using h,fun _=>rfl⟩
  |false=>
   have hn: ¬4≤T.length:=fun h'=>by rw[Nat.ble_eq_true_of_le h']at hl;cases hl
   rw[hl,cond_false]at h
   cases hb:Nat.beq (jS t (aH k i)).length t.length with
   |true=>
    rw[hb]at h
    obtain⟨X,h1,h2⟩:=oS k K f (i+1) t T h
    exact⟨X,h1,h2⟩
   |false=>
    rw[hb]at h
    obtain⟨X,h1,h2⟩:=oS k K f (i+1) _ _ h
    exact⟨(i:Int)::X,by simpa using h1,fun h'=>absurd h' hn⟩
def dl (i j:Nat):Int:=bif Nat.beq i j then 1 else 0
def yP (r:List Int):List Int:=bif bet (b9 r) 0 3 then []else dW (r.drop 4) 30
def byG:Nat→Nat→List (List Int)→List Int→List Int→List Int→List Int→(List Int→List Int→List Int→List Int→Bool)→Bool
 |0,_,_,a,b,c,d,K=>K a b c d
 |f+1,i,rows,a,b,c,d,K=>match dK (byF rows i) rows.length 0 ()with
  |.inl _=>byG f (i+1) rows a b c d K
  |.inr j=>fLL (byK i j rows) fun rows'=>fL (nlL a (rows'.getD j [])) fun a'=>fL (nlL b (rows'.getD j [])) fun b'=>fL (nlL c (rows'.getD j [])) fun c'=>fL (nlL d (rows'.getD j [])) fun d'=>byG f (i+1) rows' a' b' c' d' K
theorem xC (K:List Int→List Int→List Int→List Int→Bool): ∀(f i:Nat) (rows:List (List Int)) (a b c d:List Int),byG f i rows a b c d K=K (bL byT f i (rows,a)).2 (bL byT f i (rows,b)).2 (bL byT f i (rows,c)).2 (bL byT f i (rows,d)).2
 |0,i,rows,a,b,c,d=>rfl
 |f+1,i,rows,a,b,c,d=>by
  have e: ∀x,bL byT (f+1) i (rows,x)=bL byT f (i+1) (byT i (rows,x)):=fun _=>rfl
  rw[e,e,e,e]
  unfold byG byT
  dsimp only
  cases dK (byF rows i) rows.length 0 ()with
  |inl _=>exact xC K f (i+1) rows a b c d
  |inr j=>simp only[jZ,j5];exact xC K f (i+1) _ _ _ _ _
def byN (m:List (List Int)) (K:List (List Int)→Bool):Bool:=
 fLL (bwL m) fun rows=>byG 4 0 rows (unL 0++List.replicate m.length 0) (unL 1++List.replicate m.length 0) (unL 2++List.replicate m.length 0) (unL 3++List.replicate m.length 0) fun a b c d=>
  fL (yP a) fun a=>fL (yP b) fun b=>fL (yP c) fun c=>fL (yP d) fun d=>K [a,b,c,d]
theorem PT (m:List (List Int)) (K:List (List Int)→Bool):byN m K=K [byD m (unL 0),byD m (unL 1),byD m (unL 2),byD m (unL 3)]:=by
 have e: ∀v,byD m v=yP (bL byT 4 0 (bwL m,v++List.replicate m.length 0)).2:=fun v=>by unfold byD yP byE;rfl
 simp only[byN,jZ,j5,xC,e]
def L6 (k:Int) (T:List Int):Bool:=fLL (rfL k T) fun m=>byN m fun N=>Nat.beq T.length 4&&(aK T&&(c7 (fun i=>Nat.beq (N.getD i []).length 4&&(c7 (fun j=>xP (r6 (fun q=>(m.getD i []).getD q 0*(N.getD q []).getD j 0) 4-dl i j)) 4&&
 c7 (fun q=>xP (r6 (fun j=>(N.getD i []).getD j 0*(m.getD j []).getD q 0) 4-dl i q)) 4)) 4))
def frF (c:List Bool) (fst:List Int):List Int:=bL (frS c fst) fst.length 0 []
def EH (k:Int) (c:List Bool):Bool:=fLL (rwL k c) fun m=>decide (m.length≤1000)&&fsG m m.length 0 [] [] fun t fst=>Nat.beq fst.length t.length&&(Nat.ble fst.length 4&&(d7 fst (flg c).length&&fL (frF c fst) fun T=>
 okG k c 8 0 [] [] fun rows=>(rows==rfL k T)&&EK k 8 0 t T fun T'=>fL T' fun T'=>L6 k T'))
end
end Go.Proofs.YthapjdpkelihiaaGreat.Am
