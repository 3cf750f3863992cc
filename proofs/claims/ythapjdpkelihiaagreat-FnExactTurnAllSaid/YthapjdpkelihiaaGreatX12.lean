/- DERIVED. Part 12 of the proof: P5, C45, C46, C47, C48, C49, C50, C51, C52, P6. No statement of the program is proved here. -/
import Derived.Test.YthapjdpkelihiaaGreatX11
set_option linter.unusedSimpArgs false
set_option linter.unusedVariables false
set_option linter.unusedSectionVars false
section
namespace Go.Proofs.YthapjdpkelihiaaGreat.Am
theorem chkA_all {k:Int} {c:List Bool} (hk:bet k 1 2=true) (hc:c.length=8):chkA1 k (flg c) (spK k (flg c)).1 (spK k (flg c)).2.length=true∧chkA2 (redK k z8 (flg c)) (spK k (flg c)).2.length=true∧chkA3 k c (redK k z8 (flg c)) (spK k (flg c)).2.length=true:=
 all512 (P:=fun k c=>chkA1 k (flg c) (spK k (flg c)).1 (spK k (flg c)).2.length=true∧chkA2 (redK k z8 (flg c)) (spK k (flg c)).2.length=true∧chkA3 k c (redK k z8 (flg c)) (spK k (flg c)).2.length=true) (f:=chkA)
  (fun k c h=>chkA_iff h) chkA1a chkA1b chkA2a chkA2b hk hc
theorem elimS_get4 {n:Nat} {zs:List Int} (hz:zs.length=n*5) {i j:Nat} {at_:Int} (hj:j<n) (hi:i<n) (hij:j≠i) {p:Nat} (hp:p<n):
  (elimS zs i at_ j).getD (p*5+4) 0=if p=j then(zs.getD (j*5+4) 0-zs.getD (i*5+4) 0*elC zs at_ j%31)%31 else zs.getD (p*5+4) 0:=by
 have r4: ∀p,p<n→(elimR zs i at_ j).getD (p*5+4) 0=zs.getD (p*5+4) 0:=fun p hp=>by
  unfold elimR setR
  rw[getD_set,if_neg (by omega),getD_set,if_neg (by omega),getD_set,if_neg (by omega),getD_set,if_neg (by omega)]
 have hl:(elimR zs i at_ j).length=zs.length:=by simp[elimR,setR]
 unfold elimS
 by_cases e:p=j
 ·subst e
  rw[if_pos rfl,getD_set,if_pos ⟨rfl,by omega⟩,r4 p hp,r4 i hi]
 ·rw[if_neg e,getD_set,if_neg (by omega),r4 p hp]
def Goes (n:Nat) (d zs:List Int):Prop:=zs.length=n*5∧ ∀j,j<n→zz (zs.getD (j*5+4) 0)=zz (zs.getD (j*5+0) 0)*zz (d.getD 0 0)+zz (zs.getD (j*5+1) 0)*zz (d.getD 1 0)+zz (zs.getD (j*5+2) 0)*zz (d.getD 2 0)+zz (zs.getD (j*5+3) 0)*zz (d.getD 3 0)
theorem Goes.elim {n i j:Nat} {at_:Int} {d zs:List Int} (h:Goes n d zs) (hi:i<n) (hj:j<n):Goes n d (elimT i at_ j zs):=by
 obtain⟨h1,h2⟩:=h
 unfold elimT
 cases hb:((j:Int)!=(i:Int))&&(elC zs at_ j !=0)
 ·exact⟨h1,h2⟩
 ·have hij:j≠i:=by
   intro e;subst e;simp at hb
  rw[cond_true]
  refine⟨by rw[elimS_len];exact h1,fun p hp=> ?_⟩
  rw[elimS_get4 h1 hj hi hij hp,elimS_get h1 hj hp (by omega),elimS_get h1 hj hp (by omega),elimS_get h1 hj hp (by omega),elimS_get h1 hj hp (by omega)]
  by_cases e:p=j
  ·subst e
   simp only[if_true]
   unfold elE
   simp only[zz_mod,zz_sub,zz_add,zz_mul,zz_m1,h2 p hp,h2 i hi]
   grind
  ·simp only[if_neg e]
   exact h2 p hp
theorem Goes.red {n:Nat} {d:List Int}: ∀(f i:Nat) {zs:List Int},Goes n d zs→i+f≤n→Goes n d (runN (redT n) f i zs)
 |0,i,zs,h,_=>h
 |f+1,i,zs,h,hi=>by
  refine Goes.red f (i+1) (zs:=redT n i zs) ?_ (by omega)
  exact runN_inv0 (step:=elimT i (ld5 zs i)) (fun _ z=>Goes n d z) n zs h fun j z hj hz=>hz.elim (by omega) hj
theorem toldL_get (w v ys:List Int) (r:Nat):(toldL w v ys r).length=r*5∧ ∀j,j<r→(∀q,q<4→(toldL w v ys r).getD (j*5+q) 0=ys.getD (j*12+q) 0)∧(toldL w v ys r).getD (j*5+4) 0=valL w v (rowK ys j):=by
 refine runN_inv0 (step:=toldS w v ys) (fun i zs=>zs.length=i*5∧ ∀j,j<i→(∀q,q<4→zs.getD (j*5+q) 0=ys.getD (j*12+q) 0)∧zs.getD (j*5+4) 0=valL w v (rowK ys j)) r [] ⟨rfl,fun j hj=>by omega⟩ fun k zs hk h=> ?_
 obtain⟨h1,h2⟩:=h
 refine⟨by simp[toldS,h1];omega,fun j hj=>⟨fun q hq=> ?_, ?_⟩⟩
 ·unfold toldS
  rw[getD_app,h1]
  by_cases e:j*5+q<k*5
  ·rw[if_pos e];exact(h2 j (by omega)).1 q hq
  ·rw[if_neg e]
   have:j=k:=by omega
   subst this
   rw[show j*5+q-j*5=q from by omega]
   match q,hq with
   |0,_|1,_|2,_|3,_=>rfl
 ·unfold toldS
  rw[getD_app,h1]
  by_cases e:j*5+4<k*5
  ·rw[if_pos e];exact(h2 j (by omega)).2
  ·rw[if_neg e]
   have:j=k:=by omega
   subst this
   rw[show j*5+4-j*5=4 from by omega]
   rfl
theorem rowK_get (ys:List Int) (i:Nat) {q:Nat} (hq:q<12):(rowK ys i).getD q 0=ys.getD (i*12+q) 0:=by
 match q,hq with
 |0,_|1,_|2,_|3,_|4,_|5,_|6,_|7,_|8,_|9,_|10,_|11,_=>rfl
theorem outL_dot (zs r:List Int): ∀n,(∀i,i<n→bet (ld5 zs i) 0 3=true)→(∀i,i<n→ ∀j,j<i→ld5 zs i≠ld5 zs j)→
  dz r (outL zs n)=sumZ (fun i=>zz (r.getD (ld5 zs i).toNat 0)*zz (zs.getD (i*5+4) 0)) n∧(outL zs n).length=4∧ ∀q:Nat,q<4→(∀i,i<n→ld5 zs i≠(q:Int))→(outL zs n).getD q 0=0
 |0,_,_=>⟨by
   show dz r [0,0,0,0]=0
   simp only[dz,List.getD_cons_zero,List.getD_cons_succ,zz_zero];grind,rfl,fun q hq _=>by
   match q,hq with
   |0,_|1,_|2,_|3,_=>rfl⟩
 |n+1,hb,hd=>by
  obtain⟨i1,i2,i3⟩:=outL_dot zs r n (fun i hi=>hb i (by omega)) (fun i hi j hj=>hd i (by omega) j hj)
  have e:outL zs (n+1)=(outL zs n).set (ld5 zs n).toNat (zs.getD (n*5+4) 0):=by
   have gen: ∀(f i:Nat) (o:List Int),runN (outS zs) (f+1) i o=outS zs (i+f) (runN (outS zs) f i o):=by
    intro f
    induction f with
    |zero=>intro i o;rfl
    |succ f ih=>intro i o;have:=ih (i+1) (outS zs i o);rw[show i+1+f=i+(f+1)from by omega]at this;exact this
   have:=gen n 0 [0,0,0,0]
   rw[Nat.zero_add]at this
   exact this
  have hbn:=bet_iff.1 (hb n (by omega))
  have z:(outL zs n).getD (ld5 zs n).toNat 0=0:=i3 (ld5 zs n).toNat (by omega) fun i hi he=>hd n (by omega) i hi (by omega)
  rw[e]
  refine⟨?_,by rw[List.length_set];exact i2,fun q hq hn=> ?_⟩
  ·simp only[sumZ]
   rw[←i1]
   have hp:(ld5 zs n).toNat<4:=by omega
   revert z hp
   generalize (ld5 zs n).toNat=p
   generalize zs.getD (n*5+4) 0=x
   intro z hp
   simp only[dz,getD_set,i2]
   match p,hp with
   |0,_=>simp[-List.getD_eq_getElem?_getD];rw[z,zz_zero];grind
   |1,_=>simp[-List.getD_eq_getElem?_getD];rw[z,zz_zero];grind
   |2,_=>simp[-List.getD_eq_getElem?_getD];rw[z,zz_zero];grind
   |3,_=>simp[-List.getD_eq_getElem?_getD];rw[z,zz_zero];grind
  ·rw[getD_set,if_neg (by have:=hn n (by omega);omega)]
   exact i3 q hq fun i hi=>hn i (by omega)
theorem fit_sol {k:Int} {w:List Int} {c:List Bool} {d:List Int} (hk:bet k 1 2=true) (hc:c.length=8) (h:Fit k w c d):Fit k w c (solL k w (flg c)):=by
 obtain⟨a1,a2,a3⟩:=chkA_all hk hc
 obtain⟨so,re⟩:=solOk_rows (w:=w) (w':=z8) (solOk_flg (w:=z8) hk hc)
 simp only[solOk,Bool.and_eq_true]at so
 obtain⟨t1,t2⟩:=toldL_get w (flg c) (spK k (flg c)).1 (spK k (flg c)).2.length
 have sp:=spK_inv hk (flg_shard hc)
 have g0:Goes (spK k (flg c)).2.length d (tolK k w (flg c)):=by
  refine⟨t1,fun j hj=> ?_⟩
  obtain⟨u1,u2⟩:=t2 j hj
  unfold tolK
  rw[u2,u1 0 (by omega),u1 1 (by omega),u1 2 (by omega),u1 3 (by omega),zz_valL]
  have e:sumZ (fun j'=>zz ((rowK (spK k (flg c)).1 j).getD (j'+4) 0)*zz (w.getD ((flg c).getD j' 0).toNat 0)) (flg c).length=sumZ (fun j'=>zz ((spK k (flg c)).1.getD (j*12+(j'+4)) 0)*dz (rowL k ((flg c).getD j' 0)) d) (flg c).length:=by
   refine sumZ_congr fun i hi=> ?_
   have hl:=flg_len c
   rw[rowK_get _ _ (by omega)]
   obtain⟨a,ha,hca,hg⟩:=flg_get hc hi
   rw[hg,Int.toNat_natCast,←h a ha hca,zz_encE]
  rw[e,sumZ_dz (flg c).length _ (fun j'=>rowL k ((flg c).getD j' 0)) [(spK k (flg c)).1.getD (j*12+0) 0,(spK k (flg c)).1.getD (j*12+1) 0,(spK k (flg c)).1.getD (j*12+2) 0,(spK k (flg c)).1.getD (j*12+3) 0] d fun q hq=> ?_]
  ·rfl
  ·have:=mod0_zz (allK_spec (allK_spec a1 j hj) q hq)
   rw[zz_sumI]at this
   simp only[zz_mul]at this
   rw[this]
   match q,hq with
   |0,_|1,_|2,_|3,_=>rfl
 have g1:Goes (spK k (flg c)).2.length d (redK k w (flg c)):=Goes.red _ 0 g0 (by omega)
 intro a ha hca
 refine zz_fok (encE_fok _ _ _) (by rw[←h a ha hca];exact encE_fok _ _ _) ?_
 rw[zz_encE,←h a ha hca,zz_encE]
 have ld: ∀i,i<(spK k (flg c)).2.length→ld5 (redK k w (flg c)) i=ld5 (redK k z8 (flg c)) i:=fun i hi=>re.ld hi
 obtain⟨o1,-,-⟩:=outL_dot (redK k w (flg c)) (rowL k a) (spK k (flg c)).2.length (fun i hi=>allK_spec so.2 i hi) (fun i hi j hj=>by
  have:=allK_spec (allK_spec a2 i hi) j hj
  rw[ld i hi,ld j (by omega)]
  simpa using this)
 unfold solL
 rw[o1]
 have e:sumZ (fun i=>zz ((rowL k a).getD (ld5 (redK k w (flg c)) i).toNat 0)*zz ((redK k w (flg c)).getD (i*5+4) 0)) (spK k (flg c)).2.length=
   sumZ (fun i=>zz ((rowL k a).getD (ld5 (redK k z8 (flg c)) i).toNat 0)*dz [(redK k z8 (flg c)).getD (i*5+0) 0,(redK k z8 (flg c)).getD (i*5+1) 0,(redK k z8 (flg c)).getD (i*5+2) 0,(redK k z8 (flg c)).getD (i*5+3) 0] d) (spK k (flg c)).2.length:=by
  refine sumZ_congr fun i hi=> ?_
  rw[ld i hi,g1.2 i hi,re.2.2 i hi 0 (by omega),re.2.2 i hi 1 (by omega),re.2.2 i hi 2 (by omega),re.2.2 i hi 3 (by omega)]
  rfl
 rw[e]
 refine sumZ_dz _ _ (fun i=>[(redK k z8 (flg c)).getD (i*5+0) 0,(redK k z8 (flg c)).getD (i*5+1) 0,(redK k z8 (flg c)).getD (i*5+2) 0,(redK k z8 (flg c)).getD (i*5+3) 0]) _ d fun q hq=> ?_
 have h3:=allK_spec a3 a ha
 rw[hca,Bool.not_true,Bool.false_or]at h3
 have:=mod0_zz (allK_spec h3 q hq)
 rw[zz_sumI]at this
 simp only[zz_mul]at this
 rw[←this]
 refine sumZ_congr fun i hi=> ?_
 match q,hq with
 |0,_|1,_|2,_|3,_=>rfl
theorem fits_of_fit {k:Int} {w:List Int} {c:List Bool} {d:List Int} (hk:bet k 1 2=true) (hc:c.length=8) (h:Fit k w c d):fitsL k w (flg c)=true:=(fits_iff hc).2 (fit_sol hk hc h)
end Go.Proofs.YthapjdpkelihiaaGreat.Am
end
section
namespace Go.Proofs.YthapjdpkelihiaaGreat.Am
noncomputable def T51:List Entry:=[⟨54,[],inlM tt (ctOf T50) Tryz.f54 []⟩]++T50
theorem e51:EntriesOk Tryz.prog T51:=by
 refine EntriesOk.append ?_ e50
 intro e he
 simp only[List.mem_cons,List.not_mem_nil,or_false]at he
 subst he;exact l21LoseM
theorem t51:CtOk Tryz.prog (ctOf T51):=ctOf_ok e51
noncomputable abbrev f105:=Tryz.f115
noncomputable def I105 (k:Int) (a b:List Int) (c:List Bool) (x:Int) (n:Nat) (out:List Bool) (i:Int):St:=
 stOf f105.ntmps [(1,.c (.int .i64 x)),(2,.c (.ptr 0 0 0 0)),(5,.c (.sl 1 0 n 1 none)),(6,.c (.int .i64 i))] [.live (.cells [.int .i64 k,.view none (.ints .i64 a) a.length 1 none,.view none (.ints .i64 b) b.length 1 none,.view none (.bools c) c.length 1 none]),.live (.bools out)]
noncomputable def X105 (n:Nat) (out:List Bool):St:=stOf f105.ntmps [(5,.c (.sl 0 0 n 1 none))] [.live (.bools out)]
theorem r105_1 (k:Int) (a b:List Int) (c:List Bool) (x:Int) (n:Nat) (out:List Bool) (i:Int):roundR 0 (liveH f105 0) (liveB' f105 0) (evalC tt (ctOf T51) ([]) 0 100 (bodyAt 0 (codeOf f105)) (I105 k a b c x n out i) [(0,true),(0,true)])=
  some (.normal,(decide (i<(↑c.length:Int))&&(decide (0≤i)&&(decide (i<(↑c.length:Int))&&(decide (i.toNat<c.length)&&((c.getD i.toNat false)&&((c.getD i.toNat false)&&((c.getD i.toNat false)&&((c.getD i.toNat false)&&(decide (0≤i)&&(decide (i<(↑b.length:Int))&&((c.getD i.toNat false)&&(decide (i.toNat<b.length)&&((c.getD i.toNat false)&&((c.getD i.toNat false)&&(decide (n=out.length)&&((decide (n+1≤274877906944))&&true)))))))))))))))),[],I105 k a b c x (n+1) (out++[bif c.getD i.toNat false then b.getD i.toNat 0==x else false]) (IntKind.i64.wrap (i+1))):=by kernel_rfl
theorem r105_2 (k:Int) (a b:List Int) (c:List Bool) (x:Int) (n:Nat) (out:List Bool) (i:Int):roundR 0 (liveH f105 0) (liveB' f105 0) (evalC tt (ctOf T51) ([]) 0 100 (bodyAt 0 (codeOf f105)) (I105 k a b c x n out i) [(0,true),(0,false)])=
  some (.normal,(decide (i<(↑c.length:Int))&&(decide (0≤i)&&(decide (i<(↑c.length:Int))&&(decide (i.toNat<c.length)&&((!c.getD i.toNat false)&&((!c.getD i.toNat false)&&((!c.getD i.toNat false)&&((!c.getD i.toNat false)&&((!c.getD i.toNat false)&&((!c.getD i.toNat false)&&((!c.getD i.toNat false)&&((!c.getD i.toNat false)&&(decide (n=out.length)&&((decide (n+1≤274877906944))&&true)))))))))))))),[],I105 k a b c x (n+1) (out++[false]) (IntKind.i64.wrap (i+1))):=by kernel_rfl
theorem r105_3 (k:Int) (a b:List Int) (c:List Bool) (x:Int) (n:Nat) (out:List Bool) (i:Int):roundR 0 (liveH f105 0) (liveB' f105 0) (evalC tt (ctOf T51) ([]) 0 100 (bodyAt 0 (codeOf f105)) (I105 k a b c x n out i) [(0,false)])=
  some (.exit 0,((!decide (i<(↑c.length:Int)))&&true),[],X105 (n) (out)):=by kernel_rfl
noncomputable abbrev f58:=Tryz.f60
noncomputable def I58 (k:Int) (a b:List Int) (c:List Bool) (n i:Int):St:=stOf f58.ntmps [(1,.c (.ptr 0 0 0 0)),(3,.c (.int .i64 n)),(4,.c (.int .i64 i))] [.live (.cells [.int .i64 k,.view none (.ints .i64 a) a.length 1 none,.view none (.ints .i64 b) b.length 1 none,.view none (.bools c) c.length 1 none])]
noncomputable def X58 (n:Int):St:=stOf f58.ntmps [(3,.c (.int .i64 n))] []
theorem r58_1 (k:Int) (a b:List Int) (c:List Bool) (n i:Int):roundR 0 (liveH f58 0) (liveB' f58 0) (evalC tt (ctOf T51) ([]) 0 100 (bodyAt 0 (codeOf f58)) (I58 k a b c n i) [(0,true)])=
  some (.normal,(decide (i<(↑b.length:Int))&&(decide (0≤i)&&(decide (i<(↑b.length:Int))&&((decide (i.toNat<b.length))&&true)))),[],I58 k a b c (if b.getD i.toNat 0>n then b.getD i.toNat 0 else n) (IntKind.i64.wrap (i+1))):=by kernel_rfl
theorem r58_2 (k:Int) (a b:List Int) (c:List Bool) (n i:Int):roundR 0 (liveH f58 0) (liveB' f58 0) (evalC tt (ctOf T51) ([]) 0 100 (bodyAt 0 (codeOf f58)) (I58 k a b c n i) [(0,false)])=
  some (.exit 0,((!decide (i<(↑b.length:Int)))&&true),[],X58 (n)):=by kernel_rfl
noncomputable abbrev f55:=Tryz.f57
noncomputable def I55 (v:List Int) (c:List Bool) (i:Int):St:=stOf f55.ntmps [(0,.c (.view none (.ints .i64 v) v.length 1 none)),(1,.c (.view none (.bools c) c.length 1 none)),(5,.c (.int .i64 i))] []
noncomputable def X55 (v:List Int) (c:List Bool):St:=stOf f55.ntmps [(0,.c (.view none (.ints .i64 v) v.length 1 none)),(1,.c (.view none (.bools c) c.length 1 none))] []
noncomputable def Y55 (v:List Int) (c:List Bool):St:=stOf f55.ntmps [(0,.c (.view none (.ints .i64 v) v.length 1 none)),(1,.c (.view none (.bools c) c.length 1 none)),(4,.c (.bool false))] []
theorem r55_1 (v:List Int) (c:List Bool) (i:Int):roundR 0 (liveH f55 0) (liveB' f55 0) (evalC tt (ctOf T51) ([]) 0 100 (bodyAt 0 (codeOf f55)) (I55 v c i) [(0,true),(0,true)])=
  some (.ret,(decide (i<(↑v.length:Int))&&(decide (0≤i)&&(decide (i<(↑v.length:Int))&&(decide (i.toNat<v.length)&&((!fok (v.getD i.toNat 0))&&true))))),[],Y55 v c):=by kernel_rfl
theorem r55_2 (v:List Int) (c:List Bool) (i:Int):roundR 0 (liveH f55 0) (liveB' f55 0) (evalC tt (ctOf T51) ([]) 0 100 (bodyAt 0 (codeOf f55)) (I55 v c i) [(0,true),(0,false)])=
  some (.normal,(decide (i<(↑v.length:Int))&&(decide (0≤i)&&(decide (i<(↑v.length:Int))&&(decide (i.toNat<v.length)&&((!!fok (v.getD i.toNat 0))&&true))))),[],I55 v c (IntKind.i64.wrap (i+1))):=by kernel_rfl
theorem r55_3 (v:List Int) (c:List Bool) (i:Int):roundR 0 (liveH f55 0) (liveB' f55 0) (evalC tt (ctOf T51) ([]) 0 100 (bodyAt 0 (codeOf f55)) (I55 v c i) [(0,false)])=
  some (.exit 0,((!decide (i<(↑v.length:Int)))&&true),[],X55 v c):=by kernel_rfl
theorem x51_1 (k:Int) (a b:List Int) (c:List Bool) (on:Bool) (kd:Int) (d:List Int) (vs:Int):evalF tt (ctOf T51) ([]) 100 Tryz.f53 [.agg [.int .i64 k,.view none (.ints .i64 a) a.length 1 none,.view none (.ints .i64 b) b.length 1 none,.view none (.bools c) c.length 1 none,.bool on,.int .i64 kd,.view none (.ints .i64 d) d.length 1 none,.int .i64 vs]] [] []=
  some ⟨.agg [.int .i64 k,.sl 0 0 a.length 1 none,.sl 1 0 b.length 1 none,.sl 2 0 c.length 1 none,.bool on,.int .i64 kd,.sl 3 0 (0+d.length) 1 none,.int .i64 vs],[.live (.ints .i64 a),.live (.ints .i64 b),.live (.bools c),.live (.ints .i64 ([]++d))],(decide (a.length≤274877906944)&&(decide (b.length≤274877906944)&&(decide (c.length≤274877906944)&&((decide (0+d.length≤274877906944))&&true)))),[]⟩:=by kernel_rfl
def FFkcopy:Model:=fun args h=>
 match args,h with
 |[.agg [.int .i64 k,.view _ (.ints .i64 a) n1 1 _,.view _ (.ints .i64 b) n2 1 _,.view _ (.bools c) n3 1 _,.bool on,.int .i64 kd,.view _ (.ints .i64 d) n4 1 _,.int .i64 vs]],[]=>
  some (.agg [.int .i64 k,.sl 0 0 a.length 1 none,.sl 1 0 b.length 1 none,.sl 2 0 c.length 1 none,.bool on,.int .i64 kd,.sl 3 0 d.length 1 none,.int .i64 vs],[.live (.ints .i64 a),.live (.ints .i64 b),.live (.bools c),.live (.ints .i64 d)],[decide (a.length≤274877906944),decide (b.length≤274877906944),decide (c.length≤274877906944),decide (d.length≤274877906944)])
 |_,_=>none
theorem m51:ModelN Tryz.prog 53 FFkcopy:=by
 intro args h res h' o hnorm he ho
 unfold FFkcopy at he
 split at he
 case h_2=>cases he
 rename_i k nl1 a n1 cap1 nl2 b n2 cap2 nl3 c n3 cap3 on kd nl4 d n4 cap4 vs
 simp only[Option.some.injEq,Prod.mk.injEq]at he
 obtain⟨rfl,rfl,rfl⟩:=he
 simp only[List.mem_cons,List.not_mem_nil,or_false,forall_eq_or_imp,forall_eq,decide_eq_true_eq]at ho
 obtain⟨o1,o2,o3,o4⟩:=ho
 simp only[normA,AV.norm,normL,Cell.norm,Con.size,List.cons.injEq,AV.c.injEq,AV.agg.injEq,Cell.view.injEq,nlen_one,true_and,and_true]at hnorm
 obtain⟨⟨rfl,rfl,rfl⟩,⟨rfl,rfl,rfl⟩,⟨rfl,rfl,rfl⟩,rfl,rfl,rfl⟩:=hnorm
 have e:=x51_1 k a b c on kd d vs
 simp only[Nat.zero_add]at e
 exact meets_of t51 (by kernel_rfl) (by kernel_rfl) e (by simp[o1,o2,o3,o4]) (by simp) (fun c _=>LcOk.nil)
theorem takeB_snoc {v:List Bool} {n:Nat} (h:n<v.length):v.take (n+1)=v.take n++[v.getD n false]:=by
 rw[List.take_add_one,List.getD_eq_getElem?_getD,List.getElem?_eq_getElem h];rfl
def ofS (b:List Int) (c:List Bool) (x:Int) (i:Nat) (o:List Bool):List Bool:=o++[bif c.getD i false then b.getD i 0==x else false]
theorem ofS_all (b:List Int) (c:List Bool) (x:Int):runN (ofS b c x) c.length 0 []=maskOfV b c x:=by
 have h:=runN_inv0 (step:=ofS b c x) (fun i o=>o=(maskOfV b c x).take i) c.length [] (by simp) fun i o hi h=>by
  subst h
  unfold ofS
  rw[takeB_snoc (by rw[maskOfV_len];exact hi),maskOfV_get b c x i hi]
  congr 2
  cases c.getD i false<;>simp[bne]
 rw[h,←maskOfV_len b c x,List.take_length]
theorem l105 (k:Int) (a b:List Int) (c:List Bool) (x:Int) (hc:c.length≤274877906944) (hb:b.length=c.length):
  Good Tryz.prog 0 (.block 0 (.loop (bodyAt 0 (codeOf f105)))) (I105 k a b c x 0 [] 0) fun e t=>e=.normal∧t=X105 c.length (maskOfV b c x):=by
 have key:=Good.count hT t51 hmix (m:=0) (id:=0) (body:=bodyAt 0 (codeOf f105)) c.length (fun i o=>o.length=i) (fun i o=>I105 k a b c x o.length o i) (fun o=>X105 o.length o) (ofS b c x) (liveH f105 0) (liveB' f105 0)
  (fun _ _=>[]) (fun _ _ _ _=>LcOk.nil) (fun i o hi h=>⟨by simp[ofS,h], ?_⟩) (fun o h=>⟨_,_,⟨_,_,r105_3 k a b c x o.length o c.length,by simp,by simp⟩⟩) [] rfl
 ·rw[ofS_all,maskOfV_len]at key;exact key
 ·unfold ofS
  rw[List.length_append]
  cases hq:c.getD i false with
  |true=>
   have e:=r105_1 k a b c x o.length o i
   rw[wrap_small (by omega) (by omega),Int.toNat_natCast,hq]at e
   refine⟨_,_,⟨_,_,e, ?_,by simp⟩⟩
   simp only[hq,bS]
   omega
  |false=>
   have e:=r105_2 k a b c x o.length o i
   rw[wrap_small (by omega) (by omega),Int.toNat_natCast]at e
   refine⟨_,_,⟨_,_,e, ?_,by simp⟩⟩
   simp only[hq,bS]
   omega
theorem x105_1 (k:Int) (a b:List Int) (c:List Bool) (x:Int):evalF tt (ctOf T51) ([(0,⟨liveH f105 0,I105 k a b c x 0 [] 0,.normal,X105 c.length (maskOfV b c x)⟩)]) 100 f105 [.agg [.int .i64 k,.view none (.ints .i64 a) a.length 1 none,.view none (.ints .i64 b) b.length 1 none,.view none (.bools c) c.length 1 none],.c (.int .i64 x)] [] []=
  some ⟨.c (.sl 0 0 c.length 1 none),[.live (.bools (maskOfV b c x))],true,[I105 k a b c x 0 [] 0=I105 k a b c x 0 [] 0]⟩:=by kernel_rfl
def FFsof:Model:=fun args h=>
 match args,h with
 |[.agg [.int .i64 k,.view _ (.ints .i64 a) n1 1 _,.view _ (.ints .i64 b) n2 1 _,.view _ (.bools c) n3 1 _],.c (.int .i64 x)],[]=>
  some (.c (.sl 0 0 c.length 1 none),[.live (.bools (maskOfV b c x))],[decide (c.length≤274877906944),decide (b.length=c.length)])
 |_,_=>none
theorem m105:ModelN Tryz.prog 115 FFsof:=by
 intro args h res h' o hnorm he ho
 unfold FFsof at he
 split at he
 case h_2=>cases he
 rename_i k nl1 a n1 cap1 nl2 b n2 cap2 nl3 c n3 cap3 x
 simp only[Option.some.injEq,Prod.mk.injEq]at he
 obtain⟨rfl,rfl,rfl⟩:=he
 simp only[List.mem_cons,List.not_mem_nil,or_false,forall_eq_or_imp,forall_eq,decide_eq_true_eq]at ho
 obtain⟨o1,o2⟩:=ho
 simp only[normA,AV.norm,normL,Cell.norm,Con.size,List.cons.injEq,AV.c.injEq,AV.agg.injEq,Cell.view.injEq,nlen_one,true_and,and_true]at hnorm
 obtain⟨⟨rfl,rfl,rfl⟩,⟨rfl,rfl,rfl⟩,rfl,rfl,rfl⟩:=hnorm
 exact meets_of t51 (fn:=f105) (by kernel_rfl) (by kernel_rfl) (x105_1 k a b c x) (by simp) (by simp) (fun cc hcc=>LcOk.cons (c:=cc) (by cases hcc;kernel_rfl) (by cases hcc;exact l105 k a b c x o1 o2) LcOk.nil)
def mxS (b:List Int) (i:Nat) (n:Int):Int:=if b.getD i 0>n then b.getD i 0 else n
def mxL (b:List Int):Int:=runN (mxS b) b.length 0 0
theorem l58 (k:Int) (a b:List Int) (c:List Bool) (hb:b.length≤274877906944):
  Good Tryz.prog 0 (.block 0 (.loop (bodyAt 0 (codeOf f58)))) (I58 k a b c 0 0) fun e t=>e=.normal∧t=X58 (mxL b):=by
 refine Good.count hT t51 hmix (m:=0) (id:=0) (body:=bodyAt 0 (codeOf f58)) b.length (fun _ _=>True) (fun i n=>I58 k a b c n i) X58 (mxS b) (liveH f58 0) (liveB' f58 0)
  (fun _ _=>[]) (fun _ _ _ _=>LcOk.nil) (fun i n hi h=>⟨trivial, ?_⟩) (fun n h=>⟨_,_,⟨_,_,r58_2 k a b c n b.length,by simp,by simp⟩⟩) 0 trivial
 have e:=r58_1 k a b c n i
 rw[wrap_small (by omega) (by omega),Int.toNat_natCast]at e
 refine⟨_,_,⟨_,_,e, ?_,by simp⟩⟩
 simp only[bS]
 omega
theorem x58_1 (k:Int) (a b:List Int) (c:List Bool):evalF tt (ctOf T51) ([(0,⟨liveH f58 0,I58 k a b c 0 0,.normal,X58 (mxL b)⟩)]) 100 f58 [.agg [.int .i64 k,.view none (.ints .i64 a) a.length 1 none,.view none (.ints .i64 b) b.length 1 none,.view none (.bools c) c.length 1 none]] [] []=
  some ⟨.c (.int .i64 (mxL b)),[],true,[I58 k a b c 0 0=I58 k a b c 0 0]⟩:=by kernel_rfl
def FFmx:Model:=fun args h=>
 match args,h with
 |[.agg [.int .i64 k,.view _ (.ints .i64 a) n1 1 _,.view _ (.ints .i64 b) n2 1 _,.view _ (.bools c) n3 1 _]],[]=>
  some (.c (.int .i64 (mxL b)),[],[decide (b.length≤274877906944)])
 |_,_=>none
theorem m58:ModelN Tryz.prog 60 FFmx:=by
 intro args h res h' o hnorm he ho
 unfold FFmx at he
 split at he
 case h_2=>cases he
 rename_i k nl1 a n1 cap1 nl2 b n2 cap2 nl3 c n3 cap3
 simp only[Option.some.injEq,Prod.mk.injEq]at he
 obtain⟨rfl,rfl,rfl⟩:=he
 simp only[List.mem_cons,List.not_mem_nil,or_false,forall_eq_or_imp,forall_eq,decide_eq_true_eq]at ho
 have o1:=ho
 simp only[normA,AV.norm,normL,Cell.norm,Con.size,List.cons.injEq,AV.c.injEq,AV.agg.injEq,Cell.view.injEq,nlen_one,true_and,and_true]at hnorm
 obtain⟨⟨rfl,rfl,rfl⟩,⟨rfl,rfl,rfl⟩,rfl,rfl,rfl⟩:=hnorm
 exact meets_of t51 (fn:=f58) (by kernel_rfl) (by kernel_rfl) (x58_1 k a b c) (by simp) (by simp) (fun cc hcc=>LcOk.cons (c:=cc) (by cases hcc;kernel_rfl) (by cases hcc;exact l58 k a b c o1) LcOk.nil)
theorem allR_fok (v:List Int):allR (fun i=>fok (v.getD i 0)) v.length 0=allFok v:=by
 rw[Bool.eq_iff_iff,allR_spec]
 constructor
 ·intro h
  simp only[allFok,List.all_eq_true]
  intro x hx
  obtain⟨i,hi⟩:=List.getElem?_of_mem hx
  have hlt:=(List.getElem?_eq_some_iff.1 hi).1
  have:=h i (by omega) (by omega)
  rw[List.getD_eq_getElem?_getD,hi]at this
  exact this
 ·intro h i _ _;exact allFok_get h i
theorem l55 (v:List Int) (c:List Bool) (hv:v.length≤274877906944):
  Good Tryz.prog 0 (.block 0 (.loop (bodyAt 0 (codeOf f55)))) (I55 v c 0) fun e t=>e=(bif allFok v then .normal else .ret)∧t=bif allFok v then X55 v c else Y55 v c:=by
 have key:=Good.all hT t51 hmix (m:=0) (id:=0) (body:=bodyAt 0 (codeOf f55)) v.length (fun i=>fok (v.getD i 0)) (fun i=>I55 v c i) (X55 v c) (Y55 v c) .ret (.inr rfl) (liveH f55 0) (liveB' f55 0) (fun _=>[]) (fun _ _=>LcOk.nil) (fun i hi h=> ?_) (fun i hi h=> ?_)
  ⟨_,_,⟨_,_,r55_3 v c v.length,by simp,by simp⟩⟩
 ·rw[allR_fok]at key;exact key
 ·have e:=r55_2 v c i
  rw[wrap_small (by omega) (by omega),Int.toNat_natCast]at e
  refine⟨_,_,⟨_,_,e, ?_,by simp⟩⟩
  simp only[h,bS]
  omega
 ·have e:=r55_1 v c i
  rw[Int.toNat_natCast]at e
  rw[if_neg (by intro h;cases h)]
  refine⟨_,_,⟨_,_,e, ?_,by simp⟩⟩
  simp only[h,bS]
  omega
theorem x55_1 (v:List Int) (c:List Bool):evalF tt (ctOf T51) ([(0,⟨liveH f55 0,I55 v c 0,.normal,X55 v c⟩)]) 100 f55 [.c (.view none (.ints .i64 v) v.length 1 none),.c (.view none (.bools c) c.length 1 none)] [] [(0,true)]=
  some ⟨.c (.bool (bif (↑v.length:Int)==8 then(↑c.length:Int)==8 else false)),[],(((↑v.length:Int)==8)&&(((↑v.length:Int)==8)&&(((↑v.length:Int)==8)&&true))),[I55 v c 0=I55 v c 0]⟩:=by kernel_rfl
theorem x55_2 (v:List Int) (c:List Bool):evalF tt (ctOf T51) ([(0,⟨liveH f55 0,I55 v c 0,.normal,X55 v c⟩)]) 100 f55 [.c (.view none (.ints .i64 v) v.length 1 none),.c (.view none (.bools c) c.length 1 none)] [] [(0,false)]=
  some ⟨.c (.bool false),[],((!(↑v.length:Int)==8)&&((!(↑v.length:Int)==8)&&((!(↑v.length:Int)==8)&&((!(↑v.length:Int)==8)&&true)))),[I55 v c 0=I55 v c 0]⟩:=by kernel_rfl
theorem x55r_1 (v:List Int) (c:List Bool):evalF tt (ctOf T51) ([(0,⟨liveH f55 0,I55 v c 0,.ret,Y55 v c⟩)]) 100 f55 [.c (.view none (.ints .i64 v) v.length 1 none),.c (.view none (.bools c) c.length 1 none)] [] []=
  some ⟨.c (.bool false),[],true,[I55 v c 0=I55 v c 0]⟩:=by kernel_rfl
end Go.Proofs.YthapjdpkelihiaaGreat.Am
end
section
namespace Go.Proofs.YthapjdpkelihiaaGreat.Am
def valsB (v:List Int) (c:List Bool):Bool:=allFok v&&(((v.length:Int)==8)&&((c.length:Int)==8))
def FFvals:Model:=fun args h=>
 match args,h with
 |[.c (.view _ (.ints .i64 v) n 1 _),.c (.view _ (.bools c) n2 1 _)],[]=>
  some (.c (.bool (valsB v c)),[],[decide (v.length≤274877906944)])
 |_,_=>none
theorem m55:ModelN Tryz.prog 57 FFvals:=by
 intro args h res h' o hnorm he ho
 unfold FFvals at he
 split at he
 case h_2=>cases he
 rename_i nl v n cap nl2 c n2 cap2
 simp only[Option.some.injEq,Prod.mk.injEq]at he
 obtain⟨rfl,rfl,rfl⟩:=he
 simp only[List.mem_cons,List.not_mem_nil,or_false,forall_eq_or_imp,forall_eq,decide_eq_true_eq]at ho
 have o1:=ho
 simp only[normA,AV.norm,normL,Cell.norm,Con.size,List.cons.injEq,AV.c.injEq,AV.agg.injEq,Cell.view.injEq,nlen_one,true_and,and_true]at hnorm
 obtain⟨⟨rfl,rfl,rfl⟩,rfl,rfl,rfl⟩:=hnorm
 have g:=l55 v c o1
 unfold valsB
 cases hf:allFok v with
 |false=>
  rw[hf]at g
  exact meets_of t51 (fn:=f55) (by kernel_rfl) (by kernel_rfl) (x55r_1 v c) (by simp) (by simp) (fun cc hcc=>LcOk.cons (c:=cc) (by cases hcc;kernel_rfl) (by cases hcc;exact g) LcOk.nil)
 |true=>
  rw[hf]at g
  cases hv:(v.length:Int)==8 with
  |true=>
   have e:=x55_1 v c
   rw[hv]at e
   exact meets_of t51 (fn:=f55) (by kernel_rfl) (by kernel_rfl) e rfl (by simp) (fun cc hcc=>LcOk.cons (c:=cc) (by cases hcc;kernel_rfl) (by cases hcc;exact g) LcOk.nil)
  |false=>exact meets_of t51 (fn:=f55) (by kernel_rfl) (by kernel_rfl) (x55_2 v c) (by rw[hv];rfl) (by simp) (fun cc hcc=>LcOk.cons (c:=cc) (by cases hcc;kernel_rfl) (by cases hcc;exact g) LcOk.nil)
def cbB (k:Int) (c:List Bool):Bool:=bet k 1 2&&(((c.length:Int)==8)&&bearsL k (flg c))
def FFcb:Model:=fun args h=>
 match args,h with
 |[.c (.int .i64 k),.c (.view _ (.bools c) n 1 _)],[]=>
  some (.c (.bool (cbB k c)),[],[])
 |_,_=>none
theorem m106:ModelN Tryz.prog 114 FFcb:=by
 intro args h res h' o hnorm he ho
 unfold FFcb at he
 split at he
 case h_2=>cases he
 rename_i k nl c n cap
 simp only[Option.some.injEq,Prod.mk.injEq]at he
 obtain⟨rfl,rfl,rfl⟩:=he
 simp only[normA,AV.norm,normL,Cell.norm,Con.size,List.cons.injEq,AV.c.injEq,AV.agg.injEq,Cell.view.injEq,nlen_one,true_and,and_true]at hnorm
 obtain⟨rfl,rfl,rfl⟩:=hnorm
 unfold cbB
 cases h1:bet k 1 2 with
 |false=>exact meets_of t50 (by kernel_rfl) (by kernel_rfl) (x106_3 k c) (by simp[h1]) (by simp) (fun cc _=>LcOk.nil)
 |true=>
  cases h2:(c.length:Int)==8 with
  |false=>exact meets_of t50 (by kernel_rfl) (by kernel_rfl) (x106_2 k c) (by rw[h1,h2];rfl) (by simp) (fun cc _=>LcOk.nil)
  |true=>
   have hc:c.length=8:=by simp only[beq_iff_eq]at h2;omega
   obtain⟨p1,p2,p3,p4⟩:=chk3_all h1 hc
   have hl:(rwL k c).length≤8:=runN_inv0 (step:=rwS k c) (fun i o=>o.length≤i) 8 [] (by simp) fun i o _ h=>by
    unfold rwS
    cases c.getD i false
    ·rw[cond_false];omega
    ·simp;omega
   have e:=x106_1 k c
   rw[h1,h2]at e
   simp only[cond_true,p4]at e
   exact meets_of t50 (by kernel_rfl) (by kernel_rfl) e (by simp only[h1,hc,p1,decide_true,bS];omega) (by simp) (fun cc _=>LcOk.nil)
noncomputable def T52:List Entry:=[⟨115,[],nm FFsof⟩,⟨60,[],nm FFmx⟩,⟨57,[],nm FFvals⟩,⟨53,[],nm FFkcopy⟩,⟨114,[],nm FFcb⟩]++T51
theorem e52:EntriesOk Tryz.prog T52:=by
 refine EntriesOk.append ?_ e51
 intro e he
 simp only[List.mem_cons,List.not_mem_nil,or_false]at he
 rcases he with rfl|rfl|rfl|rfl|rfl
 ·exact m105.ok
 ·exact m58.ok
 ·exact m55.ok
 ·exact m51.ok
 ·exact m106.ok
theorem t52:CtOk Tryz.prog (ctOf T52):=ctOf_ok e52
end Go.Proofs.YthapjdpkelihiaaGreat.Am
end
section
namespace Go.Proofs.YthapjdpkelihiaaGreat.Am
noncomputable abbrev f133:=Tryz.f161
noncomputable def I133 (m:List (List Int)) (v:List Int) (n:Nat) (rows:List (List Int)) (i:Int):St:=
 stOf f133.ntmps [(0,.c (.view none (.ivs .i64 m) m.length 1 none)),(1,.c (.view none (.ints .i64 v) v.length 1 none)),(6,.c (.sl 0 0 n 1 none)),(7,.c (.int .i64 i))] [.live (.ivs .i64 rows)]
noncomputable def X133 (m:List (List Int)) (v:List Int) (n:Nat) (rows:List (List Int)):St:=
 stOf f133.ntmps [(0,.c (.view none (.ivs .i64 m) m.length 1 none)),(1,.c (.view none (.ints .i64 v) v.length 1 none)),(6,.c (.sl 0 0 n 1 none))] [.live (.ivs .i64 rows)]
theorem r133_1 (m:List (List Int)) (v:List Int) (n:Nat) (rows:List (List Int)) (i:Int):roundR 0 (liveH f133 0) (liveB' f133 0) (evalC tt (ctOf T52) ([]) 0 100 (bodyAt 0 (codeOf f133)) (I133 m v n rows i) [(0,true)])=
  some (.normal,(decide (i<(↑m.length:Int))&&(decide ((↑m.length:Int)≤(↑m.length:Int))&&(decide ((↑m.length:Int)≤274877906944)&&(decide (0≤i)&&(decide (i<(↑(↑m.length:Int).toNat:Int))&&(decide (i.toNat<(List.replicate m.length (0:Int)).length)&&(decide (0≤i)&&(decide (i<(↑m.length:Int))&&(decide (i.toNat<m.length)&&(decide (0+(m.getD i.toNat []).length≤274877906944)&&(decide ((↑m.length:Int).toNat=((List.replicate m.length (0:Int)).set i.toNat 1).length)&&(decide (0+(m.getD i.toNat []).length=([]++m.getD i.toNat []).length)&&(decide (0+(m.getD i.toNat []).length+(↑m.length:Int).toNat≤274877906944)&&(decide (0+(m.getD i.toNat []).length+(↑m.length:Int).toNat=([]++m.getD i.toNat []++(List.replicate m.length (0:Int)).set i.toNat 1).length)&&(decide (n=rows.length)&&((decide (n+1≤274877906944))&&true)))))))))))))))),[],I133 m v (n+1) (rows++[[]++m.getD i.toNat []++(List.replicate m.length (0:Int)).set i.toNat 1]) (IntKind.i64.wrap (i+1))):=by kernel_rfl
theorem r133_2 (m:List (List Int)) (v:List Int) (n:Nat) (rows:List (List Int)) (i:Int):roundR 0 (liveH f133 0) (liveB' f133 0) (evalC tt (ctOf T52) ([]) 0 100 (bodyAt 0 (codeOf f133)) (I133 m v n rows i) [(0,false)])=
  some (.exit 0,((!decide (i<(↑m.length:Int)))&&true),[],X133 m v (n) (rows)):=by kernel_rfl
noncomputable def A133 (n r:Nat) (rows:List (List Int)) (rest:List Int) (at':Int):St:=
 stOf f133.ntmps [(6,.c (.sl 0 0 n 1 none)),(9,.c (.view none (.ints .i64 rest) r 1 none)),(10,.c (.int .i64 at'))] [.live (.ivs .i64 rows)]
noncomputable def B133 (n r:Nat) (rows:List (List Int)) (rest:List Int) (at' i:Int):St:=
 stOf f133.ntmps [(6,.c (.sl 0 0 n 1 none)),(9,.c (.view none (.ints .i64 rest) r 1 none)),(10,.c (.int .i64 at')),(11,.c (.int .i64 i))] [.live (.ivs .i64 rows)]
noncomputable def C133 (n r:Nat) (rows:List (List Int)) (rest:List Int) (at' i k:Int):St:=
 stOf f133.ntmps [(6,.c (.sl 0 0 n 1 none)),(9,.c (.view none (.ints .i64 rest) r 1 none)),(10,.c (.int .i64 at')),(11,.c (.int .i64 i)),(12,.c (.int .i64 k))] [.live (.ivs .i64 rows)]
noncomputable def XC133 (n r:Nat) (rows:List (List Int)) (rest:List Int) (at' i:Int):St:=B133 n r rows rest at' i
noncomputable def XB133 (n r:Nat) (rows:List (List Int)) (rest:List Int) (at':Int):St:=A133 n r rows rest at'
noncomputable def XA133 (r:Nat) (rest:List Int):St:=
 stOf f133.ntmps [(9,.c (.view none (.ints .i64 rest) r 1 none))] []
theorem k133_1 (n r:Nat) (rows:List (List Int)) (rest:List Int) (at' i k:Int):roundR 0 (liveH f133 6) (liveB' f133 6) (evalC tt (ctOf T52) ([]) 0 100 (bodyAt 6 (codeOf f133)) (C133 n r rows rest at' i k) [(0,true),(0,true),(0,true)])=
  some (.normal,(decide (k<(↑n:Int))&&((k !=i)&&((k !=i)&&((k !=i)&&(decide (0≤k)&&(decide (k<(↑n:Int))&&((k !=i)&&(decide (k.toNat<rows.length)&&((k !=i)&&((k !=i)&&(decide (0≤at')&&(decide (at'<(↑(rows.getD k.toNat []).length:Int))&&((k !=i)&&(decide (at'.toNat<(rows.getD k.toNat []).length)&&((k !=i)&&((bif k !=i then(rows.getD k.toNat []).getD at'.toNat 0 !=0 else false)&&(decide (0≤k)&&(decide (k<(↑n:Int))&&(decide (k.toNat<rows.length)&&(decide (0≤i)&&(decide (i<(↑n:Int))&&(decide (i.toNat<rows.length)&&(decide ((rows.getD k.toNat []).length≤274877906944)&&(decide ((rows.getD k.toNat []).length=(rows.getD i.toNat []).length)&&(allFok (rows.getD k.toNat [])&&(allFok (rows.getD i.toNat [])&&(decide (0≤leadL (rows.getD i.toNat []))&&(decide (0≤k)&&(decide (k<(↑n:Int))&&((decide (k.toNat<rows.length))&&true)))))))))))))))))))))))))))))),[],C133 (n) (r) (rows.set k.toNat (nlL (rows.getD k.toNat []) (rows.getD i.toNat []))) (rest) at' i (IntKind.i64.wrap (k+1))):=by kernel_rfl
theorem k133_2 (n r:Nat) (rows:List (List Int)) (rest:List Int) (at' i k:Int):roundR 0 (liveH f133 6) (liveB' f133 6) (evalC tt (ctOf T52) ([]) 0 100 (bodyAt 6 (codeOf f133)) (C133 n r rows rest at' i k) [(0,true),(0,true),(0,false)])=
  some (.normal,(decide (k<(↑n:Int))&&((k !=i)&&((k !=i)&&((k !=i)&&(decide (0≤k)&&(decide (k<(↑n:Int))&&((k !=i)&&(decide (k.toNat<rows.length)&&((k !=i)&&((k !=i)&&(decide (0≤at')&&(decide (at'<(↑(rows.getD k.toNat []).length:Int))&&((k !=i)&&(decide (at'.toNat<(rows.getD k.toNat []).length)&&((k !=i)&&((!bif k !=i then(rows.getD k.toNat []).getD at'.toNat 0 !=0 else false)&&true)))))))))))))))),[],C133 (n) (r) (rows) (rest) at' i (IntKind.i64.wrap (k+1))):=by kernel_rfl
theorem k133_3 (n r:Nat) (rows:List (List Int)) (rest:List Int) (at' i k:Int):roundR 0 (liveH f133 6) (liveB' f133 6) (evalC tt (ctOf T52) ([]) 0 100 (bodyAt 6 (codeOf f133)) (C133 n r rows rest at' i k) [(0,true),(0,false)])=
  some (.normal,(decide (k<(↑n:Int))&&((!k !=i)&&((!k !=i)&&((!k !=i)&&((!k !=i)&&((!k !=i)&&((!k !=i)&&((!k !=i)&&((!k !=i)&&((!k !=i)&&true)))))))))),[],C133 (n) (r) (rows) (rest) at' i (IntKind.i64.wrap (k+1))):=by kernel_rfl
theorem k133_4 (n r:Nat) (rows:List (List Int)) (rest:List Int) (at' i k:Int):roundR 0 (liveH f133 6) (liveB' f133 6) (evalC tt (ctOf T52) ([]) 0 100 (bodyAt 6 (codeOf f133)) (C133 n r rows rest at' i k) [(0,false)])=
  some (.exit 6,((!decide (k<(↑n:Int)))&&true),[],XC133 (n) (r) (rows) (rest) at' i):=by kernel_rfl
def byS (at' i:Nat) (k:Nat) (rows:List (List Int)):List (List Int):=
 bif ((k:Int)!=(i:Int))&&((rows.getD k []).getD at' 0 !=0)then rows.set k (nlL (rows.getD k []) (rows.getD i []))else rows
def byK (at' i:Nat) (rows:List (List Int)):List (List Int):=runN (byS at' i) rows.length 0 rows
def rowsOk (L:Nat) (rows:List (List Int)):Bool:=rows.all fun r=>decide (r.length=L)&&allFok r
theorem i133_1 (n r:Nat) (rows rows1:List (List Int)) (rest:List Int) (at' i:Int):roundR 0 (liveH f133 4) (liveB' f133 4) (evalC tt (ctOf T52) ([(6,⟨liveH f133 6,C133 n r rows rest at' i 0,.normal,XC133 n r rows1 rest at' i⟩)]) 0 100 (bodyAt 4 (codeOf f133)) (B133 n r rows rest at' i) [(0,true),(0,true)])=
  some (.exit 4,(decide (i<(↑n:Int))&&(decide (0≤i)&&(decide (i<(↑n:Int))&&(decide (i.toNat<rows.length)&&(decide ((rows.getD i.toNat []).length≤274877906944)&&((leadL (rows.getD i.toNat [])==at')&&(decide (0≤i)&&(decide (i<(↑n:Int))&&(decide (i.toNat<rows1.length)&&(decide (rest.length≤274877906944)&&(decide (rest.length=(rows1.getD i.toNat []).length)&&(allFok rest&&(allFok (rows1.getD i.toNat [])&&((decide (0≤leadL (rows1.getD i.toNat [])))&&true)))))))))))))),[C133 n r rows rest at' i 0=C133 n r rows rest at' i 0],XB133 (n) (rest.length) (rows1) (nlL rest (rows1.getD i.toNat [])) at'):=by kernel_rfl
theorem i133z_2 (n r:Nat) (rows:List (List Int)) (rest:List Int) (at' i:Int):roundR 0 (liveH f133 4) (liveB' f133 4) (evalC tt (ctOf T52) ([]) 0 100 (bodyAt 4 (codeOf f133)) (B133 n r rows rest at' i) [(0,true),(0,false)])=
  some (.normal,(decide (i<(↑n:Int))&&(decide (0≤i)&&(decide (i<(↑n:Int))&&(decide (i.toNat<rows.length)&&(decide ((rows.getD i.toNat []).length≤274877906944)&&((!leadL (rows.getD i.toNat [])==at')&&true)))))),[],B133 (n) (r) (rows) (rest) at' (IntKind.i64.wrap (i+1))):=by kernel_rfl
theorem i133z_3 (n r:Nat) (rows:List (List Int)) (rest:List Int) (at' i:Int):roundR 0 (liveH f133 4) (liveB' f133 4) (evalC tt (ctOf T52) ([]) 0 100 (bodyAt 4 (codeOf f133)) (B133 n r rows rest at' i) [(0,false)])=
  some (.exit 4,((!decide (i<(↑n:Int)))&&true),[],XB133 (n) (r) (rows) (rest) at'):=by kernel_rfl
theorem a133_1 (n r:Nat) (rows rows1:List (List Int)) (rest rest1:List Int) (at':Int):roundR 0 (liveH f133 2) (liveB' f133 2) (evalC tt (ctOf T52) ([(4,⟨liveH f133 4,B133 n r rows rest at' 0,.normal,XB133 n r rows1 rest1 at'⟩)]) 0 100 (bodyAt 2 (codeOf f133)) (A133 n r rows rest at') [(0,true)])=
  some (.normal,((decide (at'<4))&&true),[B133 n r rows rest at' 0=B133 n r rows rest at' 0],A133 (n) (r) (rows1) (rest1) (IntKind.i64.wrap (at'+1))):=by kernel_rfl
theorem a133_2 (n r:Nat) (rows rows1:List (List Int)) (rest rest1:List Int) (at':Int) (lcv:List (Nat×LC)):roundR 0 (liveH f133 2) (liveB' f133 2) (evalC tt (ctOf T52) (lcv) 0 100 (bodyAt 2 (codeOf f133)) (A133 n r rows rest at') [(0,false)])=
  some (.exit 2,((!decide (at'<4))&&true),[],XA133 (r) (rest)):=by kernel_rfl
end Go.Proofs.YthapjdpkelihiaaGreat.Am
end
section
namespace Go.Proofs.YthapjdpkelihiaaGreat.Am
theorem rowsOk_get {L:Nat} {rows:List (List Int)} (h:rowsOk L rows=true) {i:Nat} (hi:i<rows.length):(rows.getD i []).length=L∧allFok (rows.getD i [])=true:=by
 rw[List.getD_eq_getElem?_getD,List.getElem?_eq_getElem hi]
 have:=List.all_eq_true.1 h _ (List.getElem_mem hi)
 simpa only[Bool.and_eq_true,decide_eq_true_eq,Option.getD_some]using this
theorem rowsOk_set {L:Nat} {rows:List (List Int)} (h:rowsOk L rows=true) {i:Nat} {v:List Int} (h1:v.length=L) (h2:allFok v=true):rowsOk L (rows.set i v)=true:=by
 unfold rowsOk at h⊢
 rw[List.all_eq_true]at h⊢
 intro y hy
 rcases List.mem_or_eq_of_mem_set hy with h'|h'
 ·exact h y h'
 ·subst h';simp[h1,h2]
theorem rowsOk_app {L:Nat} {rows:List (List Int)} (h:rowsOk L rows=true) {v:List Int} (h1:v.length=L) (h2:allFok v=true):rowsOk L (rows++[v])=true:=by
 unfold rowsOk at h⊢
 simp[List.all_append,h,h1,h2]
def unitL (n i:Nat):List Int:=(List.replicate n (0:Int)).set i 1
theorem unitL_len (n i:Nat):(unitL n i).length=n:=by simp[unitL]
theorem allFok_rep (n:Nat):allFok (List.replicate n (0:Int))=true:=by
 simp only[allFok,List.all_eq_true]
 intro x hx
 rw[(List.mem_replicate.1 hx).2];rfl
theorem unitL_fok (n i:Nat):allFok (unitL n i)=true:=allFok_set (allFok_rep n) rfl
def bwS (m:List (List Int)) (i:Nat) (o:List (List Int)):List (List Int):=o++[m.getD i []++unitL m.length i]
def bwL (m:List (List Int)):List (List Int):=runN (bwS m) m.length 0 []
theorem bwL_inv {m:List (List Int)} (hm:rowsOk 4 m=true):(bwL m).length=m.length∧rowsOk (4+m.length) (bwL m)=true:=
 runN_inv0 (step:=bwS m) (fun i o=>o.length=i∧rowsOk (4+m.length) o=true) m.length [] ⟨rfl,rfl⟩ fun i o hi h=>by
  obtain⟨g1,g2⟩:=rowsOk_get hm hi
  exact⟨by simp[bwS,h.1],rowsOk_app h.2 (by rw[List.length_append,g1,unitL_len]) (allFok_app g2 (unitL_fok _ _))⟩
theorem l133 (m:List (List Int)) (v:List Int) (hn:m.length≤1000) (hm:rowsOk 4 m=true):
  Good Tryz.prog 0 (.block 0 (.loop (bodyAt 0 (codeOf f133)))) (I133 m v 0 [] 0) fun e t=>e=.normal∧t=X133 m v m.length (bwL m):=by
 have key:=Good.count hT t52 hmix (m:=0) (id:=0) (body:=bodyAt 0 (codeOf f133)) m.length (fun i o=>o.length=i) (fun i o=>I133 m v o.length o i) (fun o=>X133 m v o.length o) (bwS m) (liveH f133 0) (liveB' f133 0)
  (fun _ _=>[]) (fun _ _ _ _=>LcOk.nil) (fun i o hi h=>⟨by simp[bwS,h], ?_⟩) (fun o h=>⟨_,_,⟨_,_,r133_2 m v o.length o m.length,by simp,by simp⟩⟩) [] rfl
 ·have hb:=(bwL_inv hm).1
  unfold bwL at hb
  rw[hb]at key;exact key
 ·obtain⟨g1,g2⟩:=rowsOk_get hm hi
  have e:=r133_1 m v o.length o i
  rw[wrap_small (by omega) (by omega),Int.toNat_natCast]at e
  unfold bwS
  rw[List.length_append,unitL]
  refine⟨_,_,⟨_,_,e, ?_,by simp⟩⟩
  simp only[List.nil_append,List.length_append,List.length_set,List.length_replicate,Int.toNat_natCast,g1,bS]
  omega
theorem byS_inv {L n at' i k:Nat} {rows:List (List Int)} (h:rows.length=n∧rowsOk L rows=true) (hk:k<n):(byS at' i k rows).length=n∧rowsOk L (byS at' i k rows)=true:=by
 unfold byS
 cases ((k:Int)!=(i:Int))&&((rows.getD k []).getD at' 0 !=0)
 ·exact h
 ·rw[cond_true]
  obtain⟨g1,g2⟩:=rowsOk_get h.2 (i:=k) (by omega)
  exact⟨by rw[List.length_set];exact h.1,rowsOk_set h.2 (by rw[nlL_len];exact g1) (nlL_fok _ _)⟩
theorem byS_at {at' i k:Nat} {rows:List (List Int)}:(byS at' i k rows).getD i []=rows.getD i []:=by
 unfold byS
 cases h:((k:Int)!=(i:Int))&&((rows.getD k []).getD at' 0 !=0)
 ·rfl
 ·rw[Bool.and_eq_true]at h
  have hne:k≠i:=by
   intro e;subst e;simp at h
  rw[cond_true,List.getD_eq_getElem?_getD,List.getElem?_set_ne hne,←List.getD_eq_getElem?_getD]
theorem byK_inv {L at' i:Nat} {rows:List (List Int)} (h:rowsOk L rows=true):(byK at' i rows).length=rows.length∧rowsOk L (byK at' i rows)=true∧(byK at' i rows).getD i []=rows.getD i []:=by
 have:=runN_inv0 (step:=byS at' i) (fun _ o=>(o.length=rows.length∧rowsOk L o=true)∧o.getD i []=rows.getD i []) rows.length rows ⟨⟨rfl,h⟩,rfl⟩ fun k o hk h=>⟨byS_inv h.1 hk,by rw[byS_at];exact h.2⟩
 exact⟨this.1.1,this.1.2,this.2⟩
theorem lk133 (n r:Nat) (rows:List (List Int)) (rest:List Int) (at' i L:Nat) (hL:L≤2000) (ha:at'<L) (hn:n≤1000) (hr:rows.length=n) (ho:rowsOk L rows=true) (hi:i<n) (h0:leadL (rows.getD i [])=(at':Int)):
  Good Tryz.prog 0 (.block 6 (.loop (bodyAt 6 (codeOf f133)))) (C133 n r rows rest at' i 0) fun e t=>e=.normal∧t=XC133 n r (byK at' i rows) rest at' i:=by
 have key:=Good.count hT t52 hmix (m:=0) (id:=6) (body:=bodyAt 6 (codeOf f133)) n (fun _ o=>(o.length=n∧rowsOk L o=true)∧o.getD i []=rows.getD i []) (fun k o=>C133 n r o rest at' i k) (fun o=>XC133 n r o rest at' i) (byS at' i) (liveH f133 6) (liveB' f133 6)
  (fun _ _=>[]) (fun _ _ _ _=>LcOk.nil) (fun k o hk h=>⟨⟨byS_inv h.1 hk,by rw[byS_at];exact h.2⟩, ?_⟩) (fun o h=>⟨_,_,⟨_,_,k133_4 n r o rest at' i n,by simp,by simp⟩⟩) rows ⟨⟨hr,ho⟩,rfl⟩
 ·unfold byK;rw[hr];exact key
 ·obtain⟨⟨h1,h2⟩,h3⟩:=h
  obtain⟨g1,g2⟩:=rowsOk_get h2 (i:=k) (by omega)
  obtain⟨g3,g4⟩:=rowsOk_get h2 (i:=i) (by omega)
  have g5:0≤leadL (o.getD i []):=by rw[h3,h0];omega
  unfold byS
  cases c1:((k:Int)!=(i:Int))with
  |false=>
   have e:=k133_3 n r o rest at' i k
   rw[wrap_small (by omega) (by omega)]at e
   refine⟨_,_,⟨_,_,e, ?_,by simp⟩⟩
   simp only[c1,bS]
   omega
  |true=>
   cases c2:((o.getD k []).getD at' 0 !=0)with
   |false=>
    have e:=k133_2 n r o rest at' i k
    rw[wrap_small (by omega) (by omega),Int.toNat_natCast,Int.toNat_natCast]at e
    refine⟨_,_,⟨_,_,e, ?_,by simp⟩⟩
    simp only[c1,c2,g1,bS]
    omega
   |true=>
    have e:=k133_1 n r o rest at' i k
    rw[wrap_small (by omega) (by omega),Int.toNat_natCast,Int.toNat_natCast,Int.toNat_natCast]at e
    refine⟨_,_,⟨_,_,e, ?_,by simp⟩⟩
    simp only[c1,c2,g1,g2,g3,g4,g5,bS]
    omega
def byF (rows:List (List Int)) (at':Nat) (i:Nat) (_:Unit):Unit⊕Nat:=bif leadL (rows.getD i [])==(at':Int)then .inr i else .inl ()
def byT (at':Nat) (s:List (List Int)×List Int):List (List Int)×List Int:=match runE (byF s.1 at') s.1.length 0 ()with
 |.inl _=>s
 |.inr i=>(byK at' i s.1,nlL s.2 ((byK at' i s.1).getD i []))
theorem byT_inv {L n at':Nat} {s:List (List Int)×List Int} (h:(s.1.length=n∧rowsOk L s.1=true)∧s.2.length=L∧allFok s.2=true):((byT at' s).1.length=n∧rowsOk L (byT at' s).1=true)∧(byT at' s).2.length=L∧allFok (byT at' s).2=true:=by
 unfold byT
 split
 ·exact h
 ·obtain⟨q1,q2,q3⟩:=byK_inv (at':=at') (i:= ‹Nat›) h.1.2
  exact⟨⟨by rw[q1];exact h.1.1,q2⟩,by rw[nlL_len];exact h.2.1,nlL_fok _ _⟩
theorem b133_46:bodyAt 6 (bodyAt 4 (codeOf f133))=bodyAt 6 (codeOf f133):=by kernel_rfl
theorem b133_24:bodyAt 4 (bodyAt 2 (codeOf f133))=bodyAt 4 (codeOf f133):=by kernel_rfl
theorem li133 (n r:Nat) (rows:List (List Int)) (rest:List Int) (at' L:Nat) (hL:L≤2000) (ha:at'<L) (hn:n≤1000) (hr:rows.length=n) (ho:rowsOk L rows=true) (hrr:r=rest.length) (h1:rest.length=L) (h2:allFok rest=true):
  Good Tryz.prog 0 (.block 4 (.loop (bodyAt 4 (codeOf f133)))) (B133 n r rows rest at' 0) fun e t=>e=.normal∧t=XB133 n (byT at' (rows,rest)).2.length (byT at' (rows,rest)).1 (byT at' (rows,rest)).2 at':=by
 subst hrr
 have key:=Good.countE hT t52 hmix (m:=0) (id:=4) (body:=bodyAt 4 (codeOf f133)) (β:=Unit) (γ:=Nat) n (fun _ _=>True) (fun i _=>B133 n rest.length rows rest at' i) (fun _=>XB133 n rest.length rows rest at')
  (fun i=>XB133 n rest.length (byK at' i rows) (nlL rest ((byK at' i rows).getD i [])) at') .normal (.inl rfl) (byF rows at') (liveH f133 4) (liveB' f133 4)
  (fun i _=>bif leadL (rows.getD i [])==(at':Int)then [(6,⟨liveH f133 6,C133 n rest.length rows rest at' i 0,.normal,XC133 n rest.length (byK at' i rows) rest at' i⟩)]else [])
  (fun i _ hi _=> ?_) (fun i _ hi _=> ?_) (fun _ _=>⟨_,_,⟨_,_,i133z_3 n rest.length rows rest at' n,by simp,by simp⟩⟩) () trivial
 ·refine Good.mono key fun e t h=> ?_
  unfold byT
  dsimp only
  rw[hr]
  revert h
  cases runE (byF rows at') n 0 ()with
  |inl x=>exact fun h=>h
  |inr i=>exact fun h=>by dsimp only at h⊢;rw[nlL_len];exact h
 ·cases c1:leadL (rows.getD i [])==(at':Int)with
  |false=>exact LcOk.nil
  |true=>exact LcOk.cons (by kernel_rfl) (by rw[b133_46];exact lk133 n rest.length rows rest at' i L hL ha hn hr ho hi (by simpa using c1)) LcOk.nil
 ·obtain⟨g1,g2⟩:=rowsOk_get ho (i:=i) (by omega)
  cases c1:leadL (rows.getD i [])==(at':Int)with
  |true=>
   obtain⟨q1,q2,q3⟩:=byK_inv (at':=at') (i:=i) ho
   refine .inr ⟨i,by unfold byF;rw[c1];rfl, ?_⟩
   rw[cond_true,if_pos rfl]
   have e:=i133_1 n rest.length rows (byK at' i rows) rest at' i
   rw[Int.toNat_natCast,q3]at e
   rw[q3]
   refine⟨_,_,⟨_,_,e, ?_,by simp⟩⟩
   have c2:leadL (rows.getD i [])=(at':Int):=by simpa using c1
   simp only[g1,g2,h1,h2,q1,c2,beq_self_eq_true,bS]
   omega
  |false=>
   refine .inl ⟨(),by unfold byF;rw[c1];rfl,trivial, ?_⟩
   rw[cond_false]
   have e:=i133z_2 n rest.length rows rest at' i
   rw[wrap_small (by omega) (by omega),Int.toNat_natCast]at e
   refine⟨_,_,⟨_,_,e, ?_,by simp⟩⟩
   simp only[c1,g1,bS]
   omega
def byE (m:List (List Int)) (v:List Int):List (List Int)×List Int:=runN byT 4 0 (bwL m,v++List.replicate m.length 0)
theorem byE_inv {m:List (List Int)} {v:List Int} (hm:rowsOk 4 m=true) (h1:v.length=4) (h2:allFok v=true):((byE m v).1.length=m.length∧rowsOk (4+m.length) (byE m v).1=true)∧(byE m v).2.length=4+m.length∧allFok (byE m v).2=true:=
 runN_inv0 (step:=byT) (fun _ s=>(s.1.length=m.length∧rowsOk (4+m.length) s.1=true)∧s.2.length=4+m.length∧allFok s.2=true) 4 (bwL m,v++List.replicate m.length 0)
  ⟨bwL_inv hm,by simp[h1],allFok_app h2 (allFok_rep _)⟩ fun i s _ h=>byT_inv h
theorem la133 (m:List (List Int)) (v:List Int) (hn:m.length≤1000) (hm:rowsOk 4 m=true) (h1:v.length=4) (h2:allFok v=true):
  Good Tryz.prog 0 (.block 2 (.loop (bodyAt 2 (codeOf f133)))) (A133 m.length (v++List.replicate m.length 0).length (bwL m) (v++List.replicate m.length 0) 0) fun e t=>e=.normal∧t=XA133 (byE m v).2.length (byE m v).2:=by
 have i0:((bwL m).length=m.length∧rowsOk (4+m.length) (bwL m)=true)∧(v++List.replicate m.length 0).length=4+m.length∧allFok (v++List.replicate m.length 0)=true:=⟨bwL_inv hm,by simp[h1],allFok_app h2 (allFok_rep _)⟩
 refine Good.count hT t52 hmix (m:=0) (id:=2) (body:=bodyAt 2 (codeOf f133)) 4 (fun _ s=>(s.1.length=m.length∧rowsOk (4+m.length) s.1=true)∧s.2.length=4+m.length∧allFok s.2=true) (fun i s=>A133 m.length s.2.length s.1 s.2 i) (fun s=>XA133 s.2.length s.2) byT (liveH f133 2) (liveB' f133 2)
  (fun i s=>[(4,⟨liveH f133 4,B133 m.length s.2.length s.1 s.2 i 0,.normal,XB133 m.length s.2.length (byT i s).1 (byT i s).2 i⟩)])
  (fun i s hi h=>LcOk.cons (by kernel_rfl) (by rw[b133_24];have:=li133 m.length s.2.length s.1 s.2 i (4+m.length) (by omega) (by omega) hn h.1.1 h.1.2 rfl h.2.1 h.2.2;rw[(byT_inv (at':=i) h).2.1,←h.2.1]at this;exact this) LcOk.nil)
  (fun i s hi h=>⟨byT_inv h, ?_⟩) (fun s h=>⟨_,_,⟨_,_,a133_2 m.length s.2.length s.1 s.1 s.2 s.2 (4:Nat) [],by simp,by simp⟩⟩) (bwL m,v++List.replicate m.length 0) i0
 have e:=a133_1 m.length s.2.length s.1 (byT i s).1 s.2 (byT i s).2 i
 rw[wrap_small (by omega) (by omega)]at e
 rw[(byT_inv (at':=i) h).2.1,←h.2.1]
 refine⟨_,_,⟨_,_,e, ?_,by simp⟩⟩
 simp only[bS]
 omega
noncomputable def J133 (n r:Nat) (rows:List (List Int)) (rest:List Int):St:=
 stOf f133.ntmps [(6,.c (.sl 0 0 n 1 none)),(9,.c (.sl 1 0 r 1 none)),(10,.c (.int .i64 0))] [.live (.ivs .i64 rows),.live (.ints .i64 rest)]
theorem lj133 (m:List (List Int)) (v:List Int) (hn:m.length≤1000) (hm:rowsOk 4 m=true) (h1:v.length=4) (h2:allFok v=true):
  Good Tryz.prog 0 (.block 2 (.loop (bodyAt 2 (codeOf f133)))) (J133 m.length (0+v.length+m.length) (bwL m) (v++List.replicate m.length 0)) fun e t=>e=.normal∧t=XA133 (byE m v).2.length (byE m v).2:=by
 have hl:0+v.length+m.length=(v++List.replicate m.length (0:Int)).length:=by simp
 rw[hl]
 have g:=la133 m v hn hm h1 h2
 revert g
 generalize (v++List.replicate m.length (0:Int))=rest
 intro g
 have e:fit 0 (liveH f133 2) ⟨(J133 m.length rest.length (bwL m) rest).tmps.set 9 (.c (.view none (.ints .i64 rest) rest.length 1 none)),(J133 m.length rest.length (bwL m) rest).heap.set 1 .dead⟩=A133 m.length rest.length (bwL m) rest 0:=by kernel_rfl
 have w:=(Weak.froz 0 9 1 (s:=J133 m.length rest.length (bwL m) rest) (len:=rest.length) (es:=1) (cap:=none) (c:=.ints .i64 rest) rfl rfl rfl (Nat.mul_one _)).trans (Weak.fit 0 (liveH f133 2) _)
 rw[e]at w
 exact g.pre w
def byB (m:List (List Int)) (v:List Int):Bool:= !bet (leadL (byE m v).2) 0 3
def byD (m:List (List Int)) (v:List Int):List Int:=bif bet (leadL (byE m v).2) 0 3 then []else scaleL ((byE m v).2.drop 4) 30
noncomputable def T52s:List Entry:=[⟨194,[],FFscale⟩]++T52
theorem e52s:EntriesOk Tryz.prog T52s:=by
 refine EntriesOk.append ?_ e52
 intro e he
 simp only[List.mem_cons,List.not_mem_nil,or_false]at he
 subst he;exact m156 t5
theorem t52s:CtOk Tryz.prog (ctOf T52s):=ctOf_ok e52s
theorem x133_1 (m rows:List (List Int)) (v rest:List Int):evalF tt (ctOf T52s) ([(0,⟨liveH f133 0,I133 m v 0 [] 0,.normal,X133 m v m.length rows⟩),(2,⟨liveH f133 2,J133 m.length (0+v.length+m.length) rows (v++List.replicate m.length (0:Int)),.normal,XA133 rest.length rest⟩)]) 100 f133 [.c (.view none (.ivs .i64 m) m.length 1 none),.c (.view none (.ints .i64 v) v.length 1 none)] [] [(0,true)]=
  some ⟨.tup [.c (.sl 0 0 0 1 none),.c (.bool false)],[.live (.ints .i64 [])],(decide (0+v.length≤274877906944)&&(decide (0+v.length=([]++v).length)&&(decide ((↑(0+v.length):Int)+(↑m.length:Int)≤274877906944)&&(decide (rest.length≤274877906944)&&((bet (leadL rest) 0 3)&&true))))),[I133 m v 0 [] 0=I133 m v 0 [] 0,J133 m.length (0+v.length+m.length) rows (v++List.replicate m.length (0:Int))=J133 m.length (0+v.length+m.length) rows (v++List.replicate m.length (0:Int))]⟩:=by kernel_rfl
theorem x133_2 (m rows:List (List Int)) (v rest:List Int):evalF tt (ctOf T52s) ([(0,⟨liveH f133 0,I133 m v 0 [] 0,.normal,X133 m v m.length rows⟩),(2,⟨liveH f133 2,J133 m.length (0+v.length+m.length) rows (v++List.replicate m.length (0:Int)),.normal,XA133 rest.length rest⟩)]) 100 f133 [.c (.view none (.ivs .i64 m) m.length 1 none),.c (.view none (.ints .i64 v) v.length 1 none)] [] [(0,false)]=
  some ⟨.tup [.c (.sl 0 0 (List.drop 4 rest).length 1 none),.c (.bool true)],[.live (.ints .i64 (scaleL (List.drop 4 rest) 30))],(decide (0+v.length≤274877906944)&&(decide (0+v.length=([]++v).length)&&(decide ((↑(0+v.length):Int)+(↑m.length:Int)≤274877906944)&&(decide (rest.length≤274877906944)&&(!bet (leadL rest) 0 3&&(decide (4≤(↑rest.length:Int))&&(decide ((List.drop 4 rest).length≤274877906944)&&((allFok (List.drop 4 rest))&&true)))))))),[I133 m v 0 [] 0=I133 m v 0 [] 0,J133 m.length (0+v.length+m.length) rows (v++List.replicate m.length (0:Int))=J133 m.length (0+v.length+m.length) rows (v++List.replicate m.length (0:Int))]⟩:=by kernel_rfl
def FFby:Model:=fun args h=>
 match args,h with
 |[.c (.view _ (.ivs .i64 m) n 1 _),.c (.view _ (.ints .i64 v) n2 1 _)],[]=>
  some (.tup [.c (.sl 0 0 (byD m v).length 1 none),.c (.bool (byB m v))],[.live (.ints .i64 (byD m v))],[decide (m.length≤1000),rowsOk 4 m,decide (v.length=4),allFok v])
 |_,_=>none
theorem allFok_drop {v:List Int} (h:allFok v=true) (n:Nat):allFok (v.drop n)=true:=by
 simp only[allFok,List.all_eq_true]at h⊢
 exact fun x hx=>h x (List.mem_of_mem_drop hx)
theorem m133:ModelN Tryz.prog 161 FFby:=by
 intro args h res h' o hnorm he ho
 unfold FFby at he
 split at he
 case h_2=>cases he
 rename_i nl m n cap nl2 v n2 cap2
 simp only[Option.some.injEq,Prod.mk.injEq]at he
 obtain⟨rfl,rfl,rfl⟩:=he
 simp only[List.mem_cons,List.not_mem_nil,or_false,forall_eq_or_imp,forall_eq,decide_eq_true_eq]at ho
 obtain⟨o1,o2,o3,o4⟩:=ho
 simp only[normA,AV.norm,normL,Cell.norm,Con.size,List.cons.injEq,AV.c.injEq,AV.agg.injEq,Cell.view.injEq,nlen_one,true_and,and_true]at hnorm
 obtain⟨⟨rfl,rfl,rfl⟩,rfl,rfl,rfl⟩:=hnorm
 obtain⟨-,q1,q2⟩:=byE_inv o2 o3 o4
 have lo: ∀cc,(codeOf f133)=cc→LcOk Tryz.prog 0 [(0,⟨liveH f133 0,I133 m v 0 [] 0,.normal,X133 m v m.length (bwL m)⟩),(2,⟨liveH f133 2,J133 m.length (0+v.length+m.length) (bwL m) (v++List.replicate m.length (0:Int)),.normal,XA133 (byE m v).2.length (byE m v).2⟩)] cc:=fun cc h=>by
  subst h
  exact LcOk.cons (by kernel_rfl) (l133 m v o1 o2) (LcOk.cons (by kernel_rfl) (lj133 m v o1 o2 o3 o4) LcOk.nil)
 unfold byB byD
 cases hb:bet (leadL (byE m v).2) 0 3 with
 |true=>
  exact meets_of (f:=161) t52s (fn:=f133) (by kernel_rfl) (by kernel_rfl) (x133_1 m (bwL m) v (byE m v).2) (by
   simp only[hb,q1,o3,List.nil_append,bS];omega) (by simp) (fun cc hcc=>lo cc (by cases hcc;rfl))
 |false=>
  rw[cond_false,scaleL_len]
  exact meets_of (f:=161) t52s (fn:=f133) (by kernel_rfl) (by kernel_rfl) (x133_2 m (bwL m) v (byE m v).2) (by
   simp only[hb,q1,o3,allFok_drop q2,List.nil_append,List.length_drop,bS];omega) (by simp) (fun cc hcc=>lo cc (by cases hcc;rfl))
noncomputable def T53:List Entry:=[⟨161,[],nm FFby⟩]++T52
theorem e53:EntriesOk Tryz.prog T53:=by
 refine EntriesOk.append ?_ e52
 intro e he
 simp only[List.mem_cons,List.not_mem_nil,or_false]at he
 subst he;exact m133.ok
theorem t53:CtOk Tryz.prog (ctOf T53):=ctOf_ok e53
end Go.Proofs.YthapjdpkelihiaaGreat.Am
end
section
namespace Go.Proofs.YthapjdpkelihiaaGreat.Am
noncomputable abbrev f157:=Tryz.f190
theorem x157_2 (i:Int):evalF tt (ctOf T53) ([]) 100 f157 [.c (.int .i64 i)] [] [(0,false)]=
  some ⟨.tup [.c (.sl 0 0 4 1 none),.c (.bool true)],[.live (.ints .i64 ([0,0,0,0].set i.toNat 1))],(!!bet i 0 3&&(decide (0≤i)&&(decide (i<4)&&((decide (i.toNat<4))&&true)))),[]⟩:=by kernel_rfl
def unL (i:Int):List Int:=[0,0,0,0].set i.toNat 1
def FFvu:Model:=fun args h=>
 match args,h with
 |[.c (.int .i64 i)],[]=>
  some (.tup [.c (.view none (.ints .i64 (unL i)) 4 1 none),.c (.bool true)],[],[bet i 0 3])
 |_,_=>none
theorem m157:ModelN Tryz.prog 190 FFvu:=by
 intro args h res h' o hnorm he ho
 unfold FFvu at he
 split at he
 case h_2=>cases he
 rename_i i
 simp only[Option.some.injEq,Prod.mk.injEq]at he
 obtain⟨rfl,rfl,rfl⟩:=he
 simp only[List.mem_cons,List.not_mem_nil,or_false,forall_eq_or_imp,forall_eq,decide_eq_true_eq]at ho
 have o1:=ho
 have h:=bet_iff.1 o1
 exact(meets_of (f:=190) t53 (fn:=f157) (by kernel_rfl) (by kernel_rfl) (x157_2 i) (by simp only[o1,bS];omega) (by simp) (fun cc _=>LcOk.nil)).views (o:=[decide (4=(unL i).length)]) rfl (by simp[unL])
noncomputable def T54:List Entry:=[⟨190,[],nm FFvu⟩]++T53
theorem e54:EntriesOk Tryz.prog T54:=by
 refine EntriesOk.append ?_ e53
 intro e he
 simp only[List.mem_cons,List.not_mem_nil,or_false]at he
 subst he;exact m157.ok
theorem t54:CtOk Tryz.prog (ctOf T54):=ctOf_ok e54
noncomputable abbrev f158:=Tryz.f191
noncomputable def I158 (m:List (List Int)) (n:Nat) (out:List Int) (i:Int):St:=
 stOf f158.ntmps [(0,.c (.view none (.ivs .i64 m) m.length 1 none)),(3,.c (.sl 0 0 n 1 none)),(4,.c (.int .i64 i))] [.live (.ints .i64 out)]
noncomputable def X158 (n:Nat) (out:List Int):St:=stOf f158.ntmps [(3,.c (.sl 0 0 n 1 none))] [.live (.ints .i64 out)]
theorem r158_1 (m:List (List Int)) (n:Nat) (out:List Int) (i:Int):roundR 0 (liveH f158 0) (liveB' f158 0) (evalC tt (ctOf T54) ([]) 0 100 (bodyAt 0 (codeOf f158)) (I158 m n out i) [(0,true),(0,true)])=
  some (.normal,(decide (i<(↑m.length:Int))&&(decide (0≤i)&&(decide (i≤(↑m.length:Int))&&(decide (0≤i)&&(decide (i<(↑m.length:Int))&&(decide (i.toNat<m.length)&&(decide ((List.take i.toNat m).length≤274877906944)&&(tidOk (List.take i.toNat m)&&(decide ((m.getD i.toNat []).length≤274877906944)&&(decide ((tidL (List.take i.toNat m)).length≤1000)&&(tdOk (m.getD i.toNat []).length (tidL (List.take i.toNat m))&&(allFok (m.getD i.toNat [])&&(!hasL (List.take i.toNat m) (m.getD i.toNat [])&&(decide (n=out.length)&&((decide (n+1≤274877906944))&&true))))))))))))))),[],I158 m (n+1) (out++[i]) (IntKind.i64.wrap (i+1))):=by kernel_rfl
theorem r158_2 (m:List (List Int)) (n:Nat) (out:List Int) (i:Int):roundR 0 (liveH f158 0) (liveB' f158 0) (evalC tt (ctOf T54) ([]) 0 100 (bodyAt 0 (codeOf f158)) (I158 m n out i) [(0,true),(0,false)])=
  some (.normal,(decide (i<(↑m.length:Int))&&(decide (0≤i)&&(decide (i≤(↑m.length:Int))&&(decide (0≤i)&&(decide (i<(↑m.length:Int))&&(decide (i.toNat<m.length)&&(decide ((List.take i.toNat m).length≤274877906944)&&(tidOk (List.take i.toNat m)&&(decide ((m.getD i.toNat []).length≤274877906944)&&(decide ((tidL (List.take i.toNat m)).length≤1000)&&(tdOk (m.getD i.toNat []).length (tidL (List.take i.toNat m))&&(allFok (m.getD i.toNat [])&&((!!hasL (List.take i.toNat m) (m.getD i.toNat []))&&true))))))))))))),[],I158 m (n) (out) (IntKind.i64.wrap (i+1))):=by kernel_rfl
theorem r158_3 (m:List (List Int)) (n:Nat) (out:List Int) (i:Int):roundR 0 (liveH f158 0) (liveB' f158 0) (evalC tt (ctOf T54) ([]) 0 100 (bodyAt 0 (codeOf f158)) (I158 m n out i) [(0,false)])=
  some (.exit 0,((!decide (i<(↑m.length:Int)))&&true),[],X158 (n) (out)):=by kernel_rfl
noncomputable abbrev f104:=Tryz.f118
noncomputable def I104 (k:Int) (w:List Int) (c:List Bool) (n:Nat) (rows:List (List Int)) (g:Nat) (got:List Int) (i:Int):St:=
 stOf f104.ntmps [(0,.c (.int .i64 k)),(1,.c (.view none (.ints .i64 w) w.length 1 none)),(2,.c (.view none (.bools c) c.length 1 none)),(7,.c (.sl 0 0 n 1 none)),(8,.c (.sl 1 0 g 1 none)),(9,.c (.int .i64 i))]
  [.live (.ivs .i64 rows),.live (.ints .i64 got)]
noncomputable def X104:St:=stOf f104.ntmps [] []
noncomputable def Y104:St:=stOf f104.ntmps [(6,.c (.bool false))] []
noncomputable def J104 (k:Int) (w:List Int) (c:List Bool) (n:Nat) (rows:List (List Int)) (g:Nat) (got:List Int) (i:Int) (b:Nat) (by_:List Int) (x j:Int):St:=
 stOf f104.ntmps [(0,.c (.int .i64 k)),(1,.c (.view none (.ints .i64 w) w.length 1 none)),(2,.c (.view none (.bools c) c.length 1 none)),(7,.c (.sl 0 0 n 1 none)),(8,.c (.sl 1 0 g 1 none)),(9,.c (.int .i64 i)),(11,.c (.sl 2 0 b 1 none)),(13,.c (.int .i64 x)),(14,.c (.int .i64 j))]
  [.live (.ivs .i64 rows),.live (.ints .i64 got),.live (.ints .i64 by_)]
noncomputable def XJ104 (k:Int) (w:List Int) (c:List Bool) (n:Nat) (rows:List (List Int)) (g:Nat) (got:List Int) (i x:Int):St:=
 stOf f104.ntmps [(0,.c (.int .i64 k)),(1,.c (.view none (.ints .i64 w) w.length 1 none)),(2,.c (.view none (.bools c) c.length 1 none)),(7,.c (.sl 0 0 n 1 none)),(8,.c (.sl 1 0 g 1 none)),(9,.c (.int .i64 i)),(13,.c (.int .i64 x))]
  [.live (.ivs .i64 rows),.live (.ints .i64 got)]
theorem j104_1 (k:Int) (w:List Int) (c:List Bool) (n:Nat) (rows:List (List Int)) (g:Nat) (got:List Int) (i:Int) (b:Nat) (by_:List Int) (x j:Int):roundR 0 (liveH f104 2) (liveB' f104 2) (evalC tt (ctOf T54) ([]) 0 100 (bodyAt 2 (codeOf f104)) (J104 k w c n rows g got i b by_ x j) [(0,true)])=
  some (.normal,(decide (j<(↑b:Int))&&(decide (0≤j)&&(decide (j<(↑b:Int))&&(decide (j.toNat<by_.length)&&(decide (0≤j)&&(decide (j<(↑g:Int))&&((decide (j.toNat<got.length))&&true))))))),[],J104 k w c (n) (rows) (g) (got) (i) (b) (by_) ((IntKind.i64.wrap (x+IntKind.i64.wrap (by_.getD j.toNat 0*got.getD j.toNat 0))).tmod 31) (IntKind.i64.wrap (j+1))):=by kernel_rfl
theorem j104_2 (k:Int) (w:List Int) (c:List Bool) (n:Nat) (rows:List (List Int)) (g:Nat) (got:List Int) (i:Int) (b:Nat) (by_:List Int) (x j:Int):roundR 0 (liveH f104 2) (liveB' f104 2) (evalC tt (ctOf T54) ([]) 0 100 (bodyAt 2 (codeOf f104)) (J104 k w c n rows g got i b by_ x j) [(0,false)])=
  some (.exit 2,((!decide (j<(↑b:Int)))&&true),[],XJ104 k w c (n) (rows) (g) (got) (i) (x)):=by kernel_rfl
theorem r104_2 (k:Int) (w:List Int) (c:List Bool) (n:Nat) (rows:List (List Int)) (g:Nat) (got:List Int) (i x:Int):roundR 0 (liveH f104 0) (liveB' f104 0) (evalC tt (ctOf T54) ([(2,⟨liveH f104 2,J104 k w c n rows g got i (byD rows (rowL k i)).length (byD rows (rowL k i)) 0 0,.normal,XJ104 k w c n rows g got i x⟩)]) 0 100 (bodyAt 0 (codeOf f104)) (I104 k w c n rows g got i) [(0,true),(0,false),(0,true),(0,true)])=
  some (.ret,(decide (i<8)&&(decide (0≤i)&&(decide (i<(↑c.length:Int))&&(decide (i.toNat<c.length)&&((!!c.getD i.toNat false)&&(bet k 1 2&&(bet i 0 7&&(decide (n=rows.length)&&(decide (rows.length≤274877906944)&&(tidOk rows&&(decide ((rowL k i).length≤274877906944)&&(decide ((tidL rows).length≤1000)&&(tdOk (rowL k i).length (tidL rows)&&(allFok (rowL k i)&&(hasL rows (rowL k i)&&(decide (n=rows.length)&&(decide (rows.length≤1000)&&(rowsOk 4 rows&&(decide ((rowL k i).length=4)&&(allFok (rowL k i)&&(decide (0≤i)&&(decide (i<(↑w.length:Int))&&(decide (i.toNat<w.length)&&((x !=w.getD i.toNat 0)&&true)))))))))))))))))))))))),[J104 k w c n rows g got i (byD rows (rowL k i)).length (byD rows (rowL k i)) 0 0=J104 k w c n rows g got i (byD rows (rowL k i)).length (byD rows (rowL k i)) 0 0],Y104):=by kernel_rfl
theorem r104_3 (k:Int) (w:List Int) (c:List Bool) (n:Nat) (rows:List (List Int)) (g:Nat) (got:List Int) (i x:Int):roundR 0 (liveH f104 0) (liveB' f104 0) (evalC tt (ctOf T54) ([(2,⟨liveH f104 2,J104 k w c n rows g got i (byD rows (rowL k i)).length (byD rows (rowL k i)) 0 0,.normal,XJ104 k w c n rows g got i x⟩)]) 0 100 (bodyAt 0 (codeOf f104)) (I104 k w c n rows g got i) [(0,true),(0,false),(0,true),(0,false)])=
  some (.normal,(decide (i<8)&&(decide (0≤i)&&(decide (i<(↑c.length:Int))&&(decide (i.toNat<c.length)&&((!!c.getD i.toNat false)&&(bet k 1 2&&(bet i 0 7&&(decide (n=rows.length)&&(decide (rows.length≤274877906944)&&(tidOk rows&&(decide ((rowL k i).length≤274877906944)&&(decide ((tidL rows).length≤1000)&&(tdOk (rowL k i).length (tidL rows)&&(allFok (rowL k i)&&(hasL rows (rowL k i)&&(decide (n=rows.length)&&(decide (rows.length≤1000)&&(rowsOk 4 rows&&(decide ((rowL k i).length=4)&&(allFok (rowL k i)&&(decide (0≤i)&&(decide (i<(↑w.length:Int))&&(decide (i.toNat<w.length)&&((!x !=w.getD i.toNat 0)&&true)))))))))))))))))))))))),[J104 k w c n rows g got i (byD rows (rowL k i)).length (byD rows (rowL k i)) 0 0=J104 k w c n rows g got i (byD rows (rowL k i)).length (byD rows (rowL k i)) 0 0],I104 k w c (n) (rows) (g) (got) (IntKind.i64.wrap (i+1))):=by kernel_rfl
theorem r104z_1 (k:Int) (w:List Int) (c:List Bool) (n:Nat) (rows:List (List Int)) (g:Nat) (got:List Int) (i:Int):roundR 0 (liveH f104 0) (liveB' f104 0) (evalC tt (ctOf T54) ([]) 0 100 (bodyAt 0 (codeOf f104)) (I104 k w c n rows g got i) [(0,true),(0,true)])=
  some (.normal,(decide (i<8)&&(decide (0≤i)&&(decide (i<(↑c.length:Int))&&(decide (i.toNat<c.length)&&((!c.getD i.toNat false)&&true))))),[],I104 k w c (n) (rows) (g) (got) (IntKind.i64.wrap (i+1))):=by kernel_rfl
theorem r104z_3 (k:Int) (w:List Int) (c:List Bool) (n:Nat) (rows:List (List Int)) (g:Nat) (got:List Int) (i:Int):roundR 0 (liveH f104 0) (liveB' f104 0) (evalC tt (ctOf T54) ([]) 0 100 (bodyAt 0 (codeOf f104)) (I104 k w c n rows g got i) [(0,true),(0,false),(0,false)])=
  some (.normal,(decide (i<8)&&(decide (0≤i)&&(decide (i<(↑c.length:Int))&&(decide (i.toNat<c.length)&&((!!c.getD i.toNat false)&&(bet k 1 2&&(bet i 0 7&&(decide (n=rows.length)&&(decide (rows.length≤274877906944)&&(tidOk rows&&(decide ((rowL k i).length≤274877906944)&&(decide ((tidL rows).length≤1000)&&(tdOk (rowL k i).length (tidL rows)&&(allFok (rowL k i)&&(!hasL rows (rowL k i)&&(decide (n=rows.length)&&(decide (n+1≤274877906944)&&(decide (0≤i)&&(decide (i<(↑w.length:Int))&&(decide (i.toNat<w.length)&&(decide (g=got.length)&&((decide (g+1≤274877906944))&&true)))))))))))))))))))))),[],I104 k w c (n+1) (rows++[rowL k i]) (g+1) (got++[w.getD i.toNat 0]) (IntKind.i64.wrap (i+1))):=by kernel_rfl
theorem r104z_4 (k:Int) (w:List Int) (c:List Bool) (n:Nat) (rows:List (List Int)) (g:Nat) (got:List Int) (i:Int):roundR 0 (liveH f104 0) (liveB' f104 0) (evalC tt (ctOf T54) ([]) 0 100 (bodyAt 0 (codeOf f104)) (I104 k w c n rows g got i) [(0,false)])=
  some (.exit 0,((!decide (i<8))&&true),[],X104):=by kernel_rfl
theorem x104_1 (k:Int) (w:List Int) (c:List Bool):evalF tt (ctOf T54) ([(0,⟨liveH f104 0,I104 k w c 0 [] 0 [] 0,.normal,X104⟩)]) 100 f104 [.c (.int .i64 k),.c (.view none (.ints .i64 w) w.length 1 none),.c (.view none (.bools c) c.length 1 none)] [] []=
  some ⟨.c (.bool true),[],true,[I104 k w c 0 [] 0 [] 0=I104 k w c 0 [] 0 [] 0]⟩:=by kernel_rfl
theorem x104r_1 (k:Int) (w:List Int) (c:List Bool):evalF tt (ctOf T54) ([(0,⟨liveH f104 0,I104 k w c 0 [] 0 [] 0,.ret,Y104⟩)]) 100 f104 [.c (.int .i64 k),.c (.view none (.ints .i64 w) w.length 1 none),.c (.view none (.bools c) c.length 1 none)] [] []=
  some ⟨.c (.bool false),[],true,[I104 k w c 0 [] 0 [] 0=I104 k w c 0 [] 0 [] 0]⟩:=by kernel_rfl
noncomputable abbrev f137:=Tryz.f159
noncomputable def I137 (k:Int) (c:List Bool) (n:Nat) (out:List Int) (i:Int):St:=
 stOf f137.ntmps [(0,.c (.int .i64 k)),(1,.c (.view none (.bools c) c.length 1 none)),(5,.c (.sl 0 0 n 1 none)),(6,.c (.int .i64 i))] [.live (.ints .i64 out)]
noncomputable def X137 (k:Int) (c:List Bool) (n:Nat) (out:List Int):St:=
 stOf f137.ntmps [(0,.c (.int .i64 k)),(1,.c (.view none (.bools c) c.length 1 none)),(5,.c (.sl 0 0 n 1 none))] [.live (.ints .i64 out)]
theorem r137_1 (k:Int) (c:List Bool) (n:Nat) (out:List Int) (i:Int):roundR 0 (liveH f137 0) (liveB' f137 0) (evalC tt (ctOf T54) ([]) 0 100 (bodyAt 0 (codeOf f137)) (I137 k c n out i) [(0,true),(0,true)])=
  some (.normal,(decide (i<8)&&(decide (0≤i)&&(decide (i<(↑c.length:Int))&&(decide (i.toNat<c.length)&&((c.getD i.toNat false)&&(decide (n=out.length)&&((decide (n+1≤274877906944))&&true))))))),[],I137 k c (n+1) (out++[i]) (IntKind.i64.wrap (i+1))):=by kernel_rfl
theorem r137_2 (k:Int) (c:List Bool) (n:Nat) (out:List Int) (i:Int):roundR 0 (liveH f137 0) (liveB' f137 0) (evalC tt (ctOf T54) ([]) 0 100 (bodyAt 0 (codeOf f137)) (I137 k c n out i) [(0,true),(0,false)])=
  some (.normal,(decide (i<8)&&(decide (0≤i)&&(decide (i<(↑c.length:Int))&&(decide (i.toNat<c.length)&&((!c.getD i.toNat false)&&true))))),[],I137 k c (n) (out) (IntKind.i64.wrap (i+1))):=by kernel_rfl
theorem r137_3 (k:Int) (c:List Bool) (n:Nat) (out:List Int) (i:Int):roundR 0 (liveH f137 0) (liveB' f137 0) (evalC tt (ctOf T54) ([]) 0 100 (bodyAt 0 (codeOf f137)) (I137 k c n out i) [(0,false)])=
  some (.exit 0,((!decide (i<8))&&true),[],X137 k c (n) (out)):=by kernel_rfl
noncomputable abbrev f136:=Tryz.f158
noncomputable def I136 (k:Int) (w fr:List Int) (n:Nat) (rows:List (List Int)) (i:Int):St:=
 stOf f136.ntmps [(0,.c (.int .i64 k)),(1,.c (.view none (.ints .i64 w) w.length 1 none)),(2,.c (.view none (.ints .i64 fr) fr.length 1 none)),(7,.c (.sl 0 0 n 1 none)),(8,.c (.int .i64 i))] [.live (.ivs .i64 rows)]
noncomputable def X136 (w fr:List Int) (n:Nat) (rows:List (List Int)):St:=
 stOf f136.ntmps [(1,.c (.view none (.ints .i64 w) w.length 1 none)),(2,.c (.view none (.ints .i64 fr) fr.length 1 none)),(7,.c (.sl 0 0 n 1 none))] [.live (.ivs .i64 rows)]
theorem r136_1 (k:Int) (w fr:List Int) (n:Nat) (rows:List (List Int)) (i:Int):roundR 0 (liveH f136 0) (liveB' f136 0) (evalC tt (ctOf T54) ([]) 0 100 (bodyAt 0 (codeOf f136)) (I136 k w fr n rows i) [(0,true)])=
  some (.normal,(decide (i<(↑fr.length:Int))&&(decide (0≤i)&&(decide (i<(↑fr.length:Int))&&(decide (i.toNat<fr.length)&&(bet k 1 2&&(bet (fr.getD i.toNat 0) 0 7&&(decide (n=rows.length)&&((decide (n+1≤274877906944))&&true)))))))),[],I136 k w fr (n+1) (rows++[rowL k (fr.getD i.toNat 0)]) (IntKind.i64.wrap (i+1))):=by kernel_rfl
theorem r136_2 (k:Int) (w fr:List Int) (n:Nat) (rows:List (List Int)) (i:Int):roundR 0 (liveH f136 0) (liveB' f136 0) (evalC tt (ctOf T54) ([]) 0 100 (bodyAt 0 (codeOf f136)) (I136 k w fr n rows i) [(0,false)])=
  some (.exit 0,((!decide (i<(↑fr.length:Int)))&&true),[],X136 w fr (n) (rows)):=by kernel_rfl
end Go.Proofs.YthapjdpkelihiaaGreat.Am
end
section
namespace Go.Proofs.YthapjdpkelihiaaGreat.Am
def hasOk (m:List (List Int)) (v:List Int):Bool:=decide (m.length≤1000)&&(tidOk m&&(decide (v.length≤1000)&&(decide ((tidL m).length≤1000)&&(tdOk v.length (tidL m)&&allFok v))))
theorem hasOk_iff {m:List (List Int)} {v:List Int} (h:hasOk m v=true):m.length≤1000∧tidOk m=true∧v.length≤1000∧(tidL m).length≤1000∧tdOk v.length (tidL m)=true∧allFok v=true:=by
 simpa only[hasOk,Bool.and_eq_true,decide_eq_true_eq]using h
def fsS (m:List (List Int)) (i:Nat) (o:List Int):List Int:=bif !hasL (m.take i) (m.getD i [])then o++[(i:Int)]else o
def firstL (m:List (List Int)):List Int:=runN (fsS m) m.length 0 []
def fsOk (m:List (List Int)):Bool:=allK (fun i=>hasOk (m.take i) (m.getD i [])) m.length
theorem l158 (m:List (List Int)) (hm:m.length≤1000) (hf:fsOk m=true):
  Good Tryz.prog 0 (.block 0 (.loop (bodyAt 0 (codeOf f158)))) (I158 m 0 [] 0) fun e t=>e=.normal∧t=X158 (firstL m).length (firstL m):=by
 refine(Good.count hT t54 hmix (m:=0) (id:=0) (body:=bodyAt 0 (codeOf f158)) m.length (fun i o=>o.length≤i) (fun i o=>I158 m o.length o i) (fun o=>X158 o.length o) (fsS m) (liveH f158 0) (liveB' f158 0)
  (fun _ _=>[]) (fun _ _ _ _=>LcOk.nil) (fun i o hi h=> ?_) (fun o h=>⟨_,_,⟨_,_,r158_3 m o.length o m.length,by simp,by simp⟩⟩)) [] (by simp)
 obtain⟨h1,h2,h3,h4,h5,h6⟩:=hasOk_iff (allK_spec hf i hi)
 unfold fsS
 cases hq:hasL (m.take i) (m.getD i [])with
 |false=>
  refine⟨by simp;omega, ?_⟩
  have e:=r158_1 m o.length o i
  rw[wrap_small (by omega) (by omega),Int.toNat_natCast]at e
  rw[Bool.not_false,cond_true,List.length_append]
  refine⟨_,_,⟨_,_,e, ?_,by simp⟩⟩
  simp only[hq,h2,h5,h6,bS]
  omega
 |true=>
  refine⟨by rw[Bool.not_true,cond_false];omega, ?_⟩
  have e:=r158_2 m o.length o i
  rw[wrap_small (by omega) (by omega),Int.toNat_natCast]at e
  rw[Bool.not_true,cond_false]
  refine⟨_,_,⟨_,_,e, ?_,by simp⟩⟩
  simp only[hq,h2,h5,h6,bS]
  omega
theorem x158_1 (m:List (List Int)):evalF tt (ctOf T54) ([(0,⟨liveH f158 0,I158 m 0 [] 0,.normal,X158 (firstL m).length (firstL m)⟩)]) 100 f158 [.c (.view none (.ivs .i64 m) m.length 1 none)] [] []=
  some ⟨.c (.sl 0 0 (firstL m).length 1 none),[.live (.ints .i64 (firstL m))],true,[I158 m 0 [] 0=I158 m 0 [] 0]⟩:=by kernel_rfl
def FFfirst:Model:=fun args h=>
 match args,h with
 |[.c (.view _ (.ivs .i64 m) n 1 _)],[]=>
  some (.c (.sl 0 0 (firstL m).length 1 none),[.live (.ints .i64 (firstL m))],[decide (m.length≤1000),fsOk m])
 |_,_=>none
theorem m158:ModelN Tryz.prog 191 FFfirst:=by
 intro args h res h' o hnorm he ho
 unfold FFfirst at he
 split at he
 case h_2=>cases he
 rename_i nl m n cap
 simp only[Option.some.injEq,Prod.mk.injEq]at he
 obtain⟨rfl,rfl,rfl⟩:=he
 simp only[List.mem_cons,List.not_mem_nil,or_false,forall_eq_or_imp,forall_eq,decide_eq_true_eq]at ho
 obtain⟨o1,o2⟩:=ho
 simp only[normA,AV.norm,normL,Cell.norm,Con.size,List.cons.injEq,AV.c.injEq,AV.agg.injEq,Cell.view.injEq,nlen_one,true_and,and_true]at hnorm
 obtain⟨rfl,rfl,rfl⟩:=hnorm
 exact meets_of t54 (fn:=f158) (by kernel_rfl) (by kernel_rfl) (x158_1 m) (by simp) (by simp) (fun cc hcc=>LcOk.cons (c:=cc) (by cases hcc;kernel_rfl) (by cases hcc;exact l158 m o1 o2) LcOk.nil)
theorem dotAt_runN (v w:List Int): ∀(f i:Nat) (n:Int),dotAt v w f i n=runN (fun i n=>(n+v.getD i 0*w.getD i 0)%31) f i n
 |0,_,_=>rfl
 |f+1,i,n=>dotAt_runN v w f (i+1) _
theorem lj104 (k:Int) (w:List Int) (c:List Bool) (n:Nat) (rows:List (List Int)) (g:Nat) (got:List Int) (i:Int) (b:List Int) (hb:b.length≤1000) (hg:g=got.length) (hl:b.length≤got.length) (h1:allFok b=true) (h2:allFok got=true):
  Good Tryz.prog 0 (.block 2 (.loop (bodyAt 2 (codeOf f104)))) (J104 k w c n rows g got i b.length b 0 0) fun e t=>e=.normal∧t=XJ104 k w c n rows g got i (dotL b got):=by
 have key:=Good.count hT t54 hmix (m:=0) (id:=2) (body:=bodyAt 2 (codeOf f104)) b.length (fun _ x=>fok x=true) (fun j x=>J104 k w c n rows g got i b.length b x j) (fun x=>XJ104 k w c n rows g got i x) (fun i n=>(n+b.getD i 0*got.getD i 0)%31) (liveH f104 2) (liveB' f104 2)
  (fun _ _=>[]) (fun _ _ _ _=>LcOk.nil) (fun j x hj h=>⟨fok_mod _, ?_⟩) (fun x h=>⟨_,_,⟨_,_,j104_2 k w c n rows g got i b.length b x b.length,by simp,by simp⟩⟩) 0 rfl
 ·unfold dotL;rw[dotAt_runN];exact key
 ·have e:=j104_1 k w c n rows g got i b.length b x j
  rw[Int.toNat_natCast,dot_step h (allFok_get h1 j) (allFok_get h2 j),wrap_small (by omega) (by omega)]at e
  refine⟨_,_,⟨_,_,e, ?_,by simp⟩⟩
  simp only[bS]
  omega
def sfS (k:Int) (w:List Int) (c:List Bool) (i:Nat) (s:List (List Int)×List Int):(List (List Int)×List Int)⊕Unit:=
 bif c.getD i false then(bif hasL s.1 (rowL k i)then(bif dotL (byD s.1 (rowL k i)) s.2 !=w.getD i 0 then .inr ()else .inl s)else .inl (s.1++[rowL k i],s.2++[w.getD i 0]))else .inl s
def sfL (k:Int) (w:List Int) (c:List Bool):Bool:=match runE (sfS k w c) 8 0 ([],[])with
 |.inl _=>true
 |.inr _=>false
def rwT (k:Int) (c:List Bool) (i:Nat) (rows:List (List Int)):List (List Int):=bif c.getD i false&& !hasL rows (rowL k i)then rows++[rowL k i]else rows
def okGo (k:Int) (c:List Bool):Nat→Nat→List (List Int)→Bool
 |0,_,_=>true
 |f+1,i,rows=>(bif c.getD i false then hasOk rows (rowL k i)else true)&&okGo k c f (i+1) (rwT k c i rows)
theorem byD_len {m:List (List Int)} {v:List Int} (hm:rowsOk 4 m=true) (h1:v.length=4) (h2:allFok v=true):(byD m v).length≤m.length∧allFok (byD m v)=true:=by
 obtain⟨-,q1,q2⟩:=byE_inv hm h1 h2
 unfold byD
 cases bet (leadL (byE m v).2) 0 3
 ·rw[cond_false];exact⟨by rw[scaleL_len,List.length_drop];omega,scaleL_fok _ _⟩
 ·exact⟨by simp,rfl⟩
theorem b104_2:bodyAt 2 (bodyAt 0 (codeOf f104))=bodyAt 2 (codeOf f104):=by kernel_rfl
theorem l104 (k:Int) (w:List Int) (c:List Bool) (hk:bet k 1 2=true) (hw:w.length=8) (hf:allFok w=true) (hc:c.length=8) (ho:okGo k c 8 0 []=true):
  Good Tryz.prog 0 (.block 0 (.loop (bodyAt 0 (codeOf f104)))) (I104 k w c 0 [] 0 [] 0) fun e t=>e=(bif sfL k w c then .normal else .ret)∧t=bif sfL k w c then X104 else Y104:=by
 have key:=Good.countE hT t54 hmix (m:=0) (id:=0) (body:=bodyAt 0 (codeOf f104)) (β:=List (List Int)×List Int) (γ:=Unit) 8
  (fun i s=>s.1.length≤i∧s.2.length=s.1.length∧rowsOk 4 s.1=true∧allFok s.2=true∧okGo k c (8-i) i s.1=true) (fun i s=>I104 k w c s.1.length s.1 s.2.length s.2 i) (fun _=>X104) (fun _=>Y104) .ret (.inr rfl) (sfS k w c) (liveH f104 0) (liveB' f104 0)
  (fun i s=>bif c.getD i false&&hasL s.1 (rowL k i)then [(2,⟨liveH f104 2,J104 k w c s.1.length s.1 s.2.length s.2 i (byD s.1 (rowL k i)).length (byD s.1 (rowL k i)) 0 0,.normal,XJ104 k w c s.1.length s.1 s.2.length s.2 i (dotL (byD s.1 (rowL k i)) s.2)⟩)]else [])
  (fun i s hi h=> ?_) (fun i s hi h=> ?_) (fun s h=>⟨_,_,⟨_,_,r104z_4 k w c s.1.length s.1 s.2.length s.2 (8:Nat),by simp,by simp⟩⟩) ([],[]) ⟨by simp,rfl,rfl,rfl,ho⟩
 ·refine Good.mono key fun e t h=> ?_
  unfold sfL
  revert h
  cases runE (sfS k w c) 8 0 ([],[])<;>exact fun h=>h
 ·obtain⟨h1,h2,h3,h4,h5⟩:=h
  have hb:bet (i:Int) 0 7=true:=bet_iff.2 ⟨by omega,by omega⟩
  cases hx:c.getD i false&&hasL s.1 (rowL k i)with
  |false=>exact LcOk.nil
  |true=>
   obtain⟨q1,q2⟩:=byD_len h3 (rowL_len hk hb) (rowL_fok hk hb)
   exact LcOk.cons (by kernel_rfl) (by rw[b104_2];exact lj104 k w c s.1.length s.1 s.2.length s.2 i (byD s.1 (rowL k i)) (by omega) rfl (by omega) q2 h4) LcOk.nil
 ·obtain⟨h1,h2,h3,h4,h5⟩:=h
  have hb:bet (i:Int) 0 7=true:=bet_iff.2 ⟨by omega,by omega⟩
  have hb':=bet_iff.1 hb
  rw[show 8-i=(8-(i+1))+1 from by omega]at h5
  simp only[okGo,Bool.and_eq_true]at h5
  obtain⟨h5,h6⟩:=h5
  have g1:=rowL_len hk hb
  have g2:=rowL_fok hk hb
  cases hq:c.getD i false with
  |false=>
   refine .inl ⟨s,by simp only[sfS,hq,cond_false],⟨by omega,h2,h3,h4, ?_⟩, ?_⟩
   ·unfold rwT at h6;rw[hq,Bool.false_and,cond_false]at h6;exact h6
   ·have e:=r104z_1 k w c s.1.length s.1 s.2.length s.2 i
    rw[wrap_small (by omega) (by omega),Int.toNat_natCast]at e
    rw[Bool.false_and,cond_false]
    refine⟨_,_,⟨_,_,e, ?_,by simp⟩⟩
    simp only[hq,bS]
    omega
  |true=>
   rw[hq,cond_true]at h5
   obtain⟨z1,z2,z3,z4,z5,z6⟩:=hasOk_iff h5
   cases hh:hasL s.1 (rowL k i)with
   |false=>
    refine .inl ⟨(s.1++[rowL k i],s.2++[w.getD i 0]),by simp only[sfS,hq,hh,cond_true,cond_false],⟨by simp;omega,by simp;omega,rowsOk_app h3 g1 g2,allFok_app h4 (by simp[allFok,allFok_get hf,-List.getD_eq_getElem?_getD]), ?_⟩, ?_⟩
    ·unfold rwT at h6;rw[hq,hh,Bool.true_and,Bool.not_false,cond_true]at h6;exact h6
    ·have e:=r104z_3 k w c s.1.length s.1 s.2.length s.2 i
     rw[wrap_small (by omega) (by omega),Int.toNat_natCast]at e
     rw[Bool.true_and,cond_false]
     simp only[List.length_append,List.length_cons,List.length_nil]
     refine⟨_,_,⟨_,_,e, ?_,by simp⟩⟩
     simp only[hq,hh,hk,hb,g1,g2,z2,z4,z6,bS]
     rw[g1]at z5
     simp only[z5,bS]
     omega
   |true=>
    have z5':=z5
    rw[g1]at z5'
    cases hd:(dotL (byD s.1 (rowL k i)) s.2 !=w.getD i 0)with
    |true=>
     refine .inr ⟨(),by simp only[sfS,hq,hh,hd,cond_true], ?_⟩
     have e:=r104_2 k w c s.1.length s.1 s.2.length s.2 i (dotL (byD s.1 (rowL k i)) s.2)
     rw[Int.toNat_natCast]at e
     rw[Bool.true_and,cond_true,if_neg (by intro h;cases h)]
     refine⟨_,_,⟨_,_,e, ?_,by simp⟩⟩
     simp only[hq,hh,hk,hb,hd,g1,g2,h3,z2,z4,z5',z6,bS]
     omega
    |false=>
     refine .inl ⟨s,by simp only[sfS,hq,hh,hd,cond_true,cond_false],⟨by omega,h2,h3,h4, ?_⟩, ?_⟩
     ·unfold rwT at h6;rw[hq,hh,Bool.true_and,Bool.not_true,cond_false]at h6;exact h6
     ·have e:=r104_3 k w c s.1.length s.1 s.2.length s.2 i (dotL (byD s.1 (rowL k i)) s.2)
      rw[wrap_small (by omega) (by omega),Int.toNat_natCast]at e
      rw[Bool.true_and,cond_true]
      refine⟨_,_,⟨_,_,e, ?_,by simp⟩⟩
      simp only[hq,hh,hk,hb,hd,g1,g2,h3,z2,z4,z5',z6,bS]
      omega
def FFsf:Model:=fun args h=>
 match args,h with
 |[.c (.int .i64 k),.c (.view _ (.ints .i64 w) n1 1 _),.c (.view _ (.bools c) n2 1 _)],[]=>
  some (.c (.bool (sfL k w c)),[],[bet k 1 2,decide (w.length=8),allFok w,decide (c.length=8),okGo k c 8 0 []])
 |_,_=>none
theorem m104:ModelN Tryz.prog 118 FFsf:=by
 intro args h res h' o hnorm he ho
 unfold FFsf at he
 split at he
 case h_2=>cases he
 rename_i k nl w n cap nl2 c n2 cap2
 simp only[Option.some.injEq,Prod.mk.injEq]at he
 obtain⟨rfl,rfl,rfl⟩:=he
 simp only[List.mem_cons,List.not_mem_nil,or_false,forall_eq_or_imp,forall_eq,decide_eq_true_eq]at ho
 obtain⟨o1,o2,o3,o4,o5⟩:=ho
 simp only[normA,AV.norm,normL,Cell.norm,Con.size,List.cons.injEq,AV.c.injEq,AV.agg.injEq,Cell.view.injEq,nlen_one,true_and,and_true]at hnorm
 obtain⟨⟨rfl,rfl,rfl⟩,rfl,rfl,rfl⟩:=hnorm
 have g:=l104 k w c o1 o2 o3 o4 o5
 cases hx:sfL k w c with
 |true=>
  rw[hx]at g
  exact meets_of t54 (fn:=f104) (by kernel_rfl) (by kernel_rfl) (x104_1 k w c) (by simp) (by simp) (fun cc hcc=>LcOk.cons (c:=cc) (by cases hcc;kernel_rfl) (by cases hcc;exact g) LcOk.nil)
 |false=>
  rw[hx]at g
  exact meets_of t54 (fn:=f104) (by kernel_rfl) (by kernel_rfl) (x104r_1 k w c) (by simp) (by simp) (fun cc hcc=>LcOk.cons (c:=cc) (by cases hcc;kernel_rfl) (by cases hcc;exact g) LcOk.nil)
noncomputable def T55:List Entry:=[⟨191,[],nm FFfirst⟩,⟨118,[],nm FFsf⟩]++T54
theorem e55:EntriesOk Tryz.prog T55:=by
 refine EntriesOk.append ?_ e54
 intro e he
 simp only[List.mem_cons,List.not_mem_nil,or_false]at he
 rcases he with rfl|rfl
 ·exact m158.ok
 ·exact m104.ok
theorem t55:CtOk Tryz.prog (ctOf T55):=ctOf_ok e55
end Go.Proofs.YthapjdpkelihiaaGreat.Am
end
section
namespace Go.Proofs.YthapjdpkelihiaaGreat.Am
noncomputable def J137 (n:Nat) (ats:List Int) (m:Nat) (fst:List Int) (g:Nat) (out:List Int) (i:Int):St:=
 stOf f137.ntmps [(5,.c (.sl 0 0 n 1 none)),(7,.c (.sl 1 0 m 1 none)),(8,.c (.sl 2 0 g 1 none)),(9,.c (.int .i64 i))] [.live (.ints .i64 ats),.live (.ints .i64 fst),.live (.ints .i64 out)]
noncomputable def Y137 (g:Nat) (out:List Int):St:=stOf f137.ntmps [(8,.c (.sl 0 0 g 1 none))] [.live (.ints .i64 out)]
theorem j137_1 (n:Nat) (ats:List Int) (m:Nat) (fst:List Int) (g:Nat) (out:List Int) (i:Int):roundR 0 (liveH f137 2) (liveB' f137 2) (evalC tt (ctOf T55) ([]) 0 100 (bodyAt 2 (codeOf f137)) (J137 n ats m fst g out i) [(0,true)])=
  some (.normal,(decide (i<(↑m:Int))&&(decide (0≤i)&&(decide (i<(↑m:Int))&&(decide (i.toNat<fst.length)&&(decide (0≤fst.getD i.toNat 0)&&(decide (fst.getD i.toNat 0<(↑n:Int))&&(decide ((fst.getD i.toNat 0).toNat<ats.length)&&(decide (g=out.length)&&((decide (g+1≤274877906944))&&true))))))))),[],J137 n ats m fst (g+1) (out++[ats.getD (fst.getD i.toNat 0).toNat 0]) (IntKind.i64.wrap (i+1))):=by kernel_rfl
theorem j137_2 (n:Nat) (ats:List Int) (m:Nat) (fst:List Int) (g:Nat) (out:List Int) (i:Int):roundR 0 (liveH f137 2) (liveB' f137 2) (evalC tt (ctOf T55) ([]) 0 100 (bodyAt 2 (codeOf f137)) (J137 n ats m fst g out i) [(0,false)])=
  some (.exit 2,((!decide (i<(↑m:Int)))&&true),[],Y137 (g) (out)):=by kernel_rfl
noncomputable def J136 (w fr:List Int) (n:Nat) (rows:List (List Int)) (g:Nat) (out:List Int) (i:Int):St:=
 stOf f136.ntmps [(1,.c (.view none (.ints .i64 w) w.length 1 none)),(2,.c (.view none (.ints .i64 fr) fr.length 1 none)),(7,.c (.sl 0 0 n 1 none)),(9,.c (.sl 1 0 g 1 none)),(10,.c (.int .i64 i))] [.live (.ivs .i64 rows),.live (.ints .i64 out)]
noncomputable def Y136 (g:Nat) (out:List Int):St:=stOf f136.ntmps [(9,.c (.sl 0 0 g 1 none))] [.live (.ints .i64 out)]
noncomputable def K136 (w fr:List Int) (n:Nat) (rows:List (List Int)) (g:Nat) (out:List Int) (i:Int) (b:Nat) (by_:List Int) (x j:Int):St:=
 stOf f136.ntmps [(1,.c (.view none (.ints .i64 w) w.length 1 none)),(2,.c (.view none (.ints .i64 fr) fr.length 1 none)),(7,.c (.sl 0 0 n 1 none)),(9,.c (.sl 1 0 g 1 none)),(10,.c (.int .i64 i)),(13,.c (.sl 2 0 b 1 none)),(15,.c (.int .i64 x)),(16,.c (.int .i64 j))]
  [.live (.ivs .i64 rows),.live (.ints .i64 out),.live (.ints .i64 by_)]
noncomputable def Z136 (w fr:List Int) (n:Nat) (rows:List (List Int)) (g:Nat) (out:List Int) (i x:Int):St:=
 stOf f136.ntmps [(1,.c (.view none (.ints .i64 w) w.length 1 none)),(2,.c (.view none (.ints .i64 fr) fr.length 1 none)),(7,.c (.sl 0 0 n 1 none)),(9,.c (.sl 1 0 g 1 none)),(10,.c (.int .i64 i)),(15,.c (.int .i64 x))]
  [.live (.ivs .i64 rows),.live (.ints .i64 out)]
theorem k136_1 (w fr:List Int) (n:Nat) (rows:List (List Int)) (g:Nat) (out:List Int) (i:Int) (b:Nat) (by_:List Int) (x j:Int):roundR 0 (liveH f136 4) (liveB' f136 4) (evalC tt (ctOf T55) ([]) 0 100 (bodyAt 4 (codeOf f136)) (K136 w fr n rows g out i b by_ x j) [(0,true)])=
  some (.normal,(decide (j<(↑fr.length:Int))&&(decide (0≤j)&&(decide (j<(↑b:Int))&&(decide (j.toNat<by_.length)&&(decide (0≤j)&&(decide (j<(↑fr.length:Int))&&(decide (j.toNat<fr.length)&&(decide (0≤fr.getD j.toNat 0)&&(decide (fr.getD j.toNat 0<(↑w.length:Int))&&((decide ((fr.getD j.toNat 0).toNat<w.length))&&true)))))))))),[],K136 w fr (n) (rows) (g) (out) (i) (b) (by_) ((IntKind.i64.wrap (x+IntKind.i64.wrap (by_.getD j.toNat 0*w.getD (fr.getD j.toNat 0).toNat 0))).tmod 31) (IntKind.i64.wrap (j+1))):=by kernel_rfl
theorem k136_2 (w fr:List Int) (n:Nat) (rows:List (List Int)) (g:Nat) (out:List Int) (i:Int) (b:Nat) (by_:List Int) (x j:Int):roundR 0 (liveH f136 4) (liveB' f136 4) (evalC tt (ctOf T55) ([]) 0 100 (bodyAt 4 (codeOf f136)) (K136 w fr n rows g out i b by_ x j) [(0,false)])=
  some (.exit 4,((!decide (j<(↑fr.length:Int)))&&true),[],Z136 w fr (n) (rows) (g) (out) (i) (x)):=by kernel_rfl
theorem j136_1 (w fr:List Int) (n:Nat) (rows:List (List Int)) (g:Nat) (out:List Int) (i x:Int):roundR 0 (liveH f136 2) (liveB' f136 2) (evalC tt (ctOf T55) ([(4,⟨liveH f136 4,K136 w fr n rows g out i (byD rows (unL i)).length (byD rows (unL i)) 0 0,.normal,Z136 w fr n rows g out i x⟩)]) 0 100 (bodyAt 2 (codeOf f136)) (J136 w fr n rows g out i) [(0,true)])=
  some (.normal,(decide (i<4)&&(bet i 0 3&&(decide (n=rows.length)&&(decide (rows.length≤1000)&&(rowsOk 4 rows&&(decide ((unL i).length=4)&&(allFok (unL i)&&(decide (g=out.length)&&((decide (g+1≤274877906944))&&true))))))))),[K136 w fr n rows g out i (byD rows (unL i)).length (byD rows (unL i)) 0 0=K136 w fr n rows g out i (byD rows (unL i)).length (byD rows (unL i)) 0 0],J136 w fr (n) (rows) (g+1) (out++[x]) (IntKind.i64.wrap (i+1))):=by kernel_rfl
theorem j136z_2 (w fr:List Int) (n:Nat) (rows:List (List Int)) (g:Nat) (out:List Int) (i:Int):roundR 0 (liveH f136 2) (liveB' f136 2) (evalC tt (ctOf T55) ([]) 0 100 (bodyAt 2 (codeOf f136)) (J136 w fr n rows g out i) [(0,false)])=
  some (.exit 2,((!decide (i<4))&&true),[],Y136 (g) (out)):=by kernel_rfl
theorem x136_1 (k:Int) (w fr:List Int) (rows:List (List Int)) (out:List Int):evalF tt (ctOf T55) ([(0,⟨liveH f136 0,I136 k w fr 0 [] 0,.normal,X136 w fr rows.length rows⟩),(2,⟨liveH f136 2,J136 w fr rows.length rows 0 [] 0,.normal,Y136 4 out⟩)]) 100 f136 [.c (.int .i64 k),.c (.view none (.ints .i64 w) w.length 1 none),.c (.view none (.ints .i64 fr) fr.length 1 none)] [] []=
  some ⟨.c (.sl 0 0 4 1 none),[.live (.ints .i64 out)],true,[I136 k w fr 0 [] 0=I136 k w fr 0 [] 0,J136 w fr rows.length rows 0 [] 0=J136 w fr rows.length rows 0 [] 0]⟩:=by kernel_rfl
theorem x137_1 (k:Int) (c:List Bool) (ats out:List Int):evalF tt (ctOf T55) ([(0,⟨liveH f137 0,I137 k c 0 [] 0,.normal,X137 k c ats.length ats⟩),(2,⟨liveH f137 2,J137 ats.length ats (firstL (rwL k c)).length (firstL (rwL k c)) 0 [] 0,.normal,Y137 out.length out⟩)]) 100 f137 [.c (.int .i64 k),.c (.view none (.bools c) c.length 1 none)] [] []=
  some ⟨.c (.sl 0 0 out.length 1 none),[.live (.ints .i64 out)],(bet k 1 2&&(decide (c.length=8)&&(decide ((rwL k c).length≤1000)&&((fsOk (rwL k c))&&true)))),[I137 k c 0 [] 0=I137 k c 0 [] 0,J137 ats.length ats (firstL (rwL k c)).length (firstL (rwL k c)) 0 [] 0=J137 ats.length ats (firstL (rwL k c)).length (firstL (rwL k c)) 0 [] 0]⟩:=by kernel_rfl
end Go.Proofs.YthapjdpkelihiaaGreat.Am
end
section
namespace Go.Proofs.YthapjdpkelihiaaGreat.Am
def faS (c:List Bool) (i:Nat) (o:List Int):List Int:=bif c.getD i false then o++[(i:Int)]else o
theorem faS_go (c:List Bool): ∀(f i:Nat) (o:List Int),runN (faS c) f i o=o++flgAt c f i
 |0,i,o=>by simp[runN,flgAt]
 |f+1,i,o=>by
  have e:runN (faS c) (f+1) i o=runN (faS c) f (i+1) (faS c i o):=rfl
  rw[e,faS_go c f (i+1)]
  simp only[flgAt,faS]
  cases c.getD i false<;>simp
theorem faS_flg {c:List Bool} (hc:c.length=8):runN (faS c) 8 0 []=flg c:=by rw[faS_go,flg,hc];rfl
theorem l137 (k:Int) (c:List Bool) (hc:c.length=8):
  Good Tryz.prog 0 (.block 0 (.loop (bodyAt 0 (codeOf f137)))) (I137 k c 0 [] 0) fun e t=>e=.normal∧t=X137 k c (flg c).length (flg c):=by
 have key:=Good.count hT t54 hmix (m:=0) (id:=0) (body:=bodyAt 0 (codeOf f137)) 8 (fun i o=>o.length≤i) (fun i o=>I137 k c o.length o i) (fun o=>X137 k c o.length o) (faS c) (liveH f137 0) (liveB' f137 0)
  (fun _ _=>[]) (fun _ _ _ _=>LcOk.nil) (fun i o hi h=> ?_) (fun o h=>⟨_,_,⟨_,_,r137_3 k c o.length o (8:Nat),by simp,by simp⟩⟩) [] (by simp)
 ·rw[faS_flg hc]at key;exact key
 ·unfold faS
  cases hq:c.getD i false with
  |true=>
   refine⟨by simp;omega, ?_⟩
   have e:=r137_1 k c o.length o i
   rw[wrap_small (by omega) (by omega),Int.toNat_natCast]at e
   rw[cond_true,List.length_append]
   refine⟨_,_,⟨_,_,e, ?_,by simp⟩⟩
   simp only[hq,bS]
   omega
  |false=>
   refine⟨by rw[cond_false];omega, ?_⟩
   have e:=r137_2 k c o.length o i
   rw[wrap_small (by omega) (by omega),Int.toNat_natCast]at e
   rw[cond_false]
   refine⟨_,_,⟨_,_,e, ?_,by simp⟩⟩
   simp only[hq,bS]
   omega
def frS (c:List Bool) (fst:List Int) (i:Nat) (o:List Int):List Int:=o++[(flg c).getD (fst.getD i 0).toNat 0]
def frL (k:Int) (c:List Bool):List Int:=runN (frS c (firstL (rwL k c))) (firstL (rwL k c)).length 0 []
theorem frL_len (k:Int) (c:List Bool):(frL k c).length=(firstL (rwL k c)).length:=
 runN_inv0 (step:=frS c (firstL (rwL k c))) (fun i o=>o.length=i) _ [] rfl fun i o _ h=>by simp[frS,h]
theorem lj137 (ats c:List Int) (fst:List Int) (cc:List Bool) (ha:ats=flg cc) (hf:fst.length≤1000) (hp:places fst ats.length=true):
  Good Tryz.prog 0 (.block 2 (.loop (bodyAt 2 (codeOf f137)))) (J137 ats.length ats fst.length fst 0 [] 0) fun e t=>e=.normal∧t=Y137 fst.length (runN (frS cc fst) fst.length 0 []):=by
 have hl:(runN (frS cc fst) fst.length 0 []).length=fst.length:=runN_inv0 (step:=frS cc fst) (fun i o=>o.length=i) _ [] rfl fun i o _ h=>by simp[frS,h]
 have key:=Good.count hT t55 hmix (m:=0) (id:=2) (body:=bodyAt 2 (codeOf f137)) fst.length (fun i o=>o.length=i) (fun i o=>J137 ats.length ats fst.length fst o.length o i) (fun o=>Y137 o.length o) (frS cc fst) (liveH f137 2) (liveB' f137 2)
  (fun _ _=>[]) (fun _ _ _ _=>LcOk.nil) (fun i o hi h=>⟨by simp[frS,h], ?_⟩) (fun o h=>⟨_,_,⟨_,_,j137_2 ats.length ats fst.length fst o.length o fst.length,by simp,by simp⟩⟩) [] rfl
 ·rw[hl]at key;exact key
 ·have hp':=places_get hp hi
  have e:=j137_1 ats.length ats fst.length fst o.length o i
  rw[wrap_small (by omega) (by omega),Int.toNat_natCast]at e
  unfold frS
  rw[List.length_append,←ha]
  refine⟨_,_,⟨_,_,e, ?_,by simp⟩⟩
  simp only[bS]
  omega
def FFfrom:Model:=fun args h=>
 match args,h with
 |[.c (.int .i64 k),.c (.view _ (.bools c) n 1 _)],[]=>
  some (.c (.sl 0 0 (frL k c).length 1 none),[.live (.ints .i64 (frL k c))],[bet k 1 2,decide (c.length=8),decide ((rwL k c).length≤1000),fsOk (rwL k c),places (firstL (rwL k c)) (flg c).length,decide ((firstL (rwL k c)).length≤1000)])
 |_,_=>none
theorem m137:ModelN Tryz.prog 159 FFfrom:=by
 intro args h res h' o hnorm he ho
 unfold FFfrom at he
 split at he
 case h_2=>cases he
 rename_i k nl c n cap
 simp only[Option.some.injEq,Prod.mk.injEq]at he
 obtain⟨rfl,rfl,rfl⟩:=he
 simp only[List.mem_cons,List.not_mem_nil,or_false,forall_eq_or_imp,forall_eq,decide_eq_true_eq]at ho
 obtain⟨o1,o2,o3,o4,o5,o6⟩:=ho
 simp only[normA,AV.norm,normL,Cell.norm,Con.size,List.cons.injEq,AV.c.injEq,AV.agg.injEq,Cell.view.injEq,nlen_one,true_and,and_true]at hnorm
 obtain⟨rfl,rfl,rfl⟩:=hnorm
 have g:=lj137 (flg c) [] (firstL (rwL k c)) c rfl o6 o5
 have e:=x137_1 k c (flg c) (frL k c)
 rw[←frL_len k c]at g
 have g':Good Tryz.prog 0 (.block 2 (.loop (bodyAt 2 (codeOf f137)))) (J137 (flg c).length (flg c) (firstL (rwL k c)).length (firstL (rwL k c)) 0 [] 0) fun e t=>e=.normal∧t=Y137 (frL k c).length (frL k c):=by rw[frL_len];rw[frL_len]at g;exact g
 exact meets_of t55 (fn:=f137) (by kernel_rfl) (by kernel_rfl) e (by simp only[o1,o2,o4,bS];omega) (by simp)
  (fun cc hcc=>LcOk.cons (c:=cc) (by cases hcc;kernel_rfl) (by cases hcc;exact l137 k c o2) (LcOk.cons (by cases hcc;kernel_rfl) (by cases hcc;exact g') LcOk.nil))
def rfS (k:Int) (fr:List Int) (i:Nat) (o:List (List Int)):List (List Int):=o++[rowL k (fr.getD i 0)]
def rfL (k:Int) (fr:List Int):List (List Int):=runN (rfS k fr) fr.length 0 []
theorem rfL_inv {k:Int} {fr:List Int} (hk:bet k 1 2=true) (hf:allShard fr=true):(rfL k fr).length=fr.length∧rowsOk 4 (rfL k fr)=true:=
 runN_inv0 (step:=rfS k fr) (fun i o=>o.length=i∧rowsOk 4 o=true) fr.length [] ⟨rfl,rfl⟩ fun i o hi h=>by
  have hb:=allShard_get hf hi
  exact⟨by simp[rfS,h.1],rowsOk_app h.2 (rowL_len hk hb) (rowL_fok hk hb)⟩
theorem l136 (k:Int) (w fr:List Int) (hk:bet k 1 2=true) (hf:allShard fr=true) (hl:fr.length≤1000):
  Good Tryz.prog 0 (.block 0 (.loop (bodyAt 0 (codeOf f136)))) (I136 k w fr 0 [] 0) fun e t=>e=.normal∧t=X136 w fr (rfL k fr).length (rfL k fr):=by
 refine Good.count hT t54 hmix (m:=0) (id:=0) (body:=bodyAt 0 (codeOf f136)) fr.length (fun i o=>o.length=i) (fun i o=>I136 k w fr o.length o i) (fun o=>X136 w fr o.length o) (rfS k fr) (liveH f136 0) (liveB' f136 0)
  (fun _ _=>[]) (fun _ _ _ _=>LcOk.nil) (fun i o hi h=>⟨by simp[rfS,h], ?_⟩) (fun o h=>⟨_,_,⟨_,_,r136_2 k w fr o.length o fr.length,by simp,by simp⟩⟩) [] rfl
 have hb:=allShard_get hf hi
 have e:=r136_1 k w fr o.length o i
 rw[wrap_small (by omega) (by omega),Int.toNat_natCast]at e
 unfold rfS
 rw[List.length_append]
 refine⟨_,_,⟨_,_,e, ?_,by simp⟩⟩
 simp only[hk,hb,bS]
 omega
def dtS (b w fr:List Int) (j:Nat) (n:Int):Int:=(n+b.getD j 0*w.getD (fr.getD j 0).toNat 0)%31
def dtN (b w fr:List Int):Int:=runN (dtS b w fr) fr.length 0 0
theorem lk136 (w fr:List Int) (n:Nat) (rows:List (List Int)) (g:Nat) (out:List Int) (i:Int) (b:List Int) (hl:fr.length≤1000) (hb:fr.length≤b.length) (h1:allFok b=true) (h2:allFok w=true) (hw:w.length=8) (hf:allShard fr=true):
  Good Tryz.prog 0 (.block 4 (.loop (bodyAt 4 (codeOf f136)))) (K136 w fr n rows g out i b.length b 0 0) fun e t=>e=.normal∧t=Z136 w fr n rows g out i (dtN b w fr):=by
 refine Good.count hT t55 hmix (m:=0) (id:=4) (body:=bodyAt 4 (codeOf f136)) fr.length (fun _ x=>fok x=true) (fun j x=>K136 w fr n rows g out i b.length b x j) (fun x=>Z136 w fr n rows g out i x) (dtS b w fr) (liveH f136 4) (liveB' f136 4)
  (fun _ _=>[]) (fun _ _ _ _=>LcOk.nil) (fun j x hj h=>⟨fok_mod _, ?_⟩) (fun x h=>⟨_,_,⟨_,_,k136_2 w fr n rows g out i b.length b x fr.length,by simp,by simp⟩⟩) 0 rfl
 have hs:=bet_iff.1 (allShard_get hf hj)
 have e:=k136_1 w fr n rows g out i b.length b x j
 rw[Int.toNat_natCast,dot_step h (allFok_get h1 j) (allFok_get h2 _),wrap_small (by omega) (by omega)]at e
 refine⟨_,_,⟨_,_,e, ?_,by simp⟩⟩
 simp only[bS]
 omega
def dlS (k:Int) (w fr:List Int) (i:Nat) (o:List Int):List Int:=o++[dtN (byD (rfL k fr) (unL i)) w fr]
def dlL (k:Int) (w fr:List Int):List Int:=runN (dlS k w fr) 4 0 []
theorem unL_ok {i:Nat} (hi:i<4):(unL i).length=4∧allFok (unL i)=true:=by
 refine⟨by simp[unL], ?_⟩
 match i,hi with
 |0,_|1,_|2,_|3,_=>rfl
theorem b136_24:bodyAt 4 (bodyAt 2 (codeOf f136))=bodyAt 4 (codeOf f136):=by kernel_rfl
theorem lj136 (k:Int) (w fr:List Int) (hk:bet k 1 2=true) (hf:allShard fr=true) (hl:fr.length≤8) (h2:allFok w=true) (hw:w.length=8) (hb:allK (fun i=>Nat.ble fr.length (byD (rfL k fr) (unL i)).length) 4=true):
  Good Tryz.prog 0 (.block 2 (.loop (bodyAt 2 (codeOf f136)))) (J136 w fr (rfL k fr).length (rfL k fr) 0 [] 0) fun e t=>e=.normal∧t=Y136 4 (dlL k w fr):=by
 obtain⟨r1,r2⟩:=rfL_inv hk hf
 have hl4:(dlL k w fr).length=4:=runN_inv0 (step:=dlS k w fr) (fun i o=>o.length=i) 4 [] rfl fun i o _ h=>by simp[dlS,h]
 have key:=Good.count hT t55 hmix (m:=0) (id:=2) (body:=bodyAt 2 (codeOf f136)) 4 (fun i o=>o.length=i) (fun i o=>J136 w fr (rfL k fr).length (rfL k fr) o.length o i) (fun o=>Y136 o.length o) (dlS k w fr) (liveH f136 2) (liveB' f136 2)
  (fun i o=>[(4,⟨liveH f136 4,K136 w fr (rfL k fr).length (rfL k fr) o.length o i (byD (rfL k fr) (unL i)).length (byD (rfL k fr) (unL i)) 0 0,.normal,Z136 w fr (rfL k fr).length (rfL k fr) o.length o i (dtN (byD (rfL k fr) (unL i)) w fr)⟩)])
  (fun i o hi h=> ?_) (fun i o hi h=>⟨by simp[dlS,h], ?_⟩) (fun o h=>⟨_,_,⟨_,_,j136z_2 w fr (rfL k fr).length (rfL k fr) o.length o (4:Nat),by simp,by simp⟩⟩) [] rfl
 ·have e:Y136 (runN (dlS k w fr) 4 0 []).length (runN (dlS k w fr) 4 0 [])=Y136 4 (dlL k w fr):=by
   have:(runN (dlS k w fr) 4 0 []).length=4:=hl4
   rw[this];rfl
  rw[e]at key;exact key
 ·obtain⟨u1,u2⟩:=unL_ok hi
  obtain⟨q1,q2⟩:=byD_len r2 u1 u2
  have hbi:=Nat.le_of_ble_eq_true (allK_spec hb i hi)
  exact LcOk.cons (by kernel_rfl) (by rw[b136_24];exact lk136 w fr (rfL k fr).length (rfL k fr) o.length o i (byD (rfL k fr) (unL i)) (by omega) hbi q2 h2 hw hf) LcOk.nil
 ·obtain⟨u1,u2⟩:=unL_ok hi
  have hbt:bet (i:Int) 0 3=true:=bet_iff.2 ⟨by omega,by omega⟩
  have e:=j136_1 w fr (rfL k fr).length (rfL k fr) o.length o i (dtN (byD (rfL k fr) (unL i)) w fr)
  rw[wrap_small (by omega) (by omega)]at e
  unfold dlS
  rw[List.length_append]
  refine⟨_,_,⟨_,_,e, ?_,by simp⟩⟩
  simp only[hbt,u1,u2,r1,r2,bS]
  omega
def FFdata:Model:=fun args h=>
 match args,h with
 |[.c (.int .i64 k),.c (.view _ (.ints .i64 w) n1 1 _),.c (.view _ (.ints .i64 fr) n2 1 _)],[]=>
  some (.c (.sl 0 0 4 1 none),[.live (.ints .i64 (dlL k w fr))],[bet k 1 2,allShard fr,decide (fr.length≤8),allFok w,decide (w.length=8),allK (fun i=>Nat.ble fr.length (byD (rfL k fr) (unL i)).length) 4])
 |_,_=>none
theorem m136:ModelN Tryz.prog 158 FFdata:=by
 intro args h res h' o hnorm he ho
 unfold FFdata at he
 split at he
 case h_2=>cases he
 rename_i k nl w n1 cap nl2 fr n2 cap2
 simp only[Option.some.injEq,Prod.mk.injEq]at he
 obtain⟨rfl,rfl,rfl⟩:=he
 simp only[List.mem_cons,List.not_mem_nil,or_false,forall_eq_or_imp,forall_eq,decide_eq_true_eq]at ho
 obtain⟨o1,o2,o3,o4,o5,o6⟩:=ho
 simp only[normA,AV.norm,normL,Cell.norm,Con.size,List.cons.injEq,AV.c.injEq,AV.agg.injEq,Cell.view.injEq,nlen_one,true_and,and_true]at hnorm
 obtain⟨⟨rfl,rfl,rfl⟩,rfl,rfl,rfl⟩:=hnorm
 exact meets_of t55 (fn:=f136) (by kernel_rfl) (by kernel_rfl) (x136_1 k w fr (rfL k fr) (dlL k w fr)) (by simp) (by simp)
  (fun cc hcc=>LcOk.cons (c:=cc) (by cases hcc;kernel_rfl) (by cases hcc;exact l136 k w fr o1 o2 (by omega)) (LcOk.cons (by cases hcc;kernel_rfl) (by cases hcc;exact lj136 k w fr o1 o2 o3 o4 o5 o6) LcOk.nil))
noncomputable def T56:List Entry:=[⟨159,[],nm FFfrom⟩,⟨158,[],nm FFdata⟩]++T55
theorem e56:EntriesOk Tryz.prog T56:=by
 refine EntriesOk.append ?_ e55
 intro e he
 simp only[List.mem_cons,List.not_mem_nil,or_false]at he
 rcases he with rfl|rfl
 ·exact m137.ok
 ·exact m136.ok
end Go.Proofs.YthapjdpkelihiaaGreat.Am
end
section
namespace Go.Proofs.YthapjdpkelihiaaGreat.Am
def okC (v:List Int) (out:List (List Int)):Bool:=decide (v.length≤274877906944)&&(decide (out.length≤1000)&&(tdOk v.length out&&allFok v))
theorem tidOkAt_step (m:List (List Int)) (f i:Nat) (out:List (List Int)):tidOkAt m (f+1) i out=(okC (m.getD i []) out&&tidOkAt m f (i+1) (tidT m i out)):=by
 rw[tidOkAt,okC]
theorem tidOkAt_app (m:List (List Int)) (x:List (List Int)): ∀(f i:Nat) (out:List (List Int)),i+f≤m.length→tidOkAt (m++x) f i out=tidOkAt m f i out∧runN (tidT (m++x)) f i out=runN (tidT m) f i out:=by
 intro f
 induction f with
 |zero=>intro i out h;exact⟨by rw[tidOkAt,tidOkAt],by rw[runN,runN]⟩
 |succ f ih=>
  intro i out h
  have e:(m++x).getD i []=m.getD i []:=by
   rw[List.getD_eq_getElem?_getD,List.getD_eq_getElem?_getD,List.getElem?_append_left (by omega)]
  have et:tidT (m++x) i out=tidT m i out:=by unfold tidT;rw[e]
  obtain⟨i1,i2⟩:=ih (i+1) (tidT m i out) (by omega)
  refine⟨?_, ?_⟩
  ·rw[tidOkAt_step,tidOkAt_step,e,et,i1]
  ·rw[runN,runN,et,i2]
theorem tidOkAt_snoc (m:List (List Int)): ∀(f i:Nat) (out:List (List Int)),tidOkAt m (f+1) i out=(tidOkAt m f i out&&okC (m.getD (i+f) []) (runN (tidT m) f i out))∧runN (tidT m) (f+1) i out=tidT m (i+f) (runN (tidT m) f i out)
 |0,i,out=>by
  refine⟨?_,rfl⟩
  simp only[tidOkAt,Bool.and_true,Bool.true_and,Nat.add_zero,okC];rfl
 |f+1,i,out=>by
  obtain⟨i1,i2⟩:=tidOkAt_snoc m f (i+1) (tidT m i out)
  refine⟨?_, ?_⟩
  ·have e:tidOkAt m (f+1+1) i out=((decide ((m.getD i []).length≤274877906944)&&(decide (out.length≤1000)&&(tdOk (m.getD i []).length out&&allFok (m.getD i []))))&&tidOkAt m (f+1) (i+1) (tidT m i out)):=rfl
   have e2:tidOkAt m (f+1) i out=((decide ((m.getD i []).length≤274877906944)&&(decide (out.length≤1000)&&(tdOk (m.getD i []).length out&&allFok (m.getD i []))))&&tidOkAt m f (i+1) (tidT m i out)):=rfl
   have e3:runN (tidT m) (f+1) i out=runN (tidT m) f (i+1) (tidT m i out):=rfl
   rw[e,i1,e2,e3,show i+(f+1)=i+1+f from by omega]
   simp only[Bool.and_assoc]
  ·show runN (tidT m) (f+1) (i+1) (tidT m i out)=_
   rw[i2,show i+1+f=i+(f+1)from by omega];rfl
theorem tid_snoc (m:List (List Int)) (v:List Int):tidOk (m++[v])=(tidOk m&&okC v (tidL m))∧tidL (m++[v])=addL (tidL m) v:=by
 have hl:(m++[v]).length=m.length+1:=by simp
 obtain⟨s1,s2⟩:=tidOkAt_snoc (m++[v]) m.length 0 []
 obtain⟨a1,a2⟩:=tidOkAt_app m [v] m.length 0 [] (by omega)
 have e:(m++[v]).getD (0+m.length) []=v:=by
  rw[Nat.zero_add,List.getD_eq_getElem?_getD,List.getElem?_append_right (Nat.le_refl _)];simp
 unfold tidOk tidL
 rw[hl,s1,s2,a1,a2,e]
 refine⟨rfl, ?_⟩
 unfold tidT
 rw[e]
theorem take_snocL {m:List (List Int)} {n:Nat} (h:n<m.length):m.take (n+1)=m.take n++[m.getD n []]:=by
 rw[List.take_add_one,List.getD_eq_getElem?_getD,List.getElem?_eq_getElem h];rfl
def fsG (m:List (List Int)):Nat→Nat→List (List Int)→List Int→(List (List Int)→List Int→Bool)→Bool
 |0,_,t,o,k=>k t o
 |f+1,i,t,o,k=>(okC (m.getD i []) t&&decide ((m.getD i []).length≤1000))&&fLL (addL t (m.getD i [])) fun t'=>bif Nat.beq t'.length t.length then fsG m f (i+1) t' o k else fsG m f (i+1) t' (o++[(i:Int)]) k
theorem fsG_spec (m:List (List Int)) (hm:m.length≤1000) (k:List (List Int)→List Int→Bool): ∀(f i:Nat) (o:List Int),i+f=m.length→tidOk (m.take i)=true→fsG m f i (tidL (m.take i)) o k=true→
  (∀j,i≤j→j<m.length→hasOk (m.take j) (m.getD j [])=true)∧tidOk m=true∧k (tidL m) (runN (fsS m) f i o)=true
 |0,i,o,h,ht,hg=>by
  have e:m.take i=m:=List.take_of_length_le (by omega)
  rw[e]at ht hg
  exact⟨fun j h1 h2=>by omega,ht,hg⟩
 |f+1,i,o,h,ht,hg=>by
  have hi:i<m.length:=by omega
  simp only[fsG,fLL_eq,Bool.and_eq_true,decide_eq_true_eq]at hg
  obtain⟨⟨h1,h2⟩,h3⟩:=hg
  obtain⟨s1,s2⟩:=tid_snoc (m.take i) (m.getD i [])
  rw[←take_snocL hi]at s1 s2
  have ht':tidOk (m.take (i+1))=true:=by rw[s1,ht,h1];rfl
  have h1':=h1
  simp only[okC,Bool.and_eq_true,decide_eq_true_eq]at h1'
  have hh:hasOk (m.take i) (m.getD i [])=true:=by
   simp only[hasOk,Bool.and_eq_true,decide_eq_true_eq]
   exact⟨by rw[List.length_take];omega,ht,h2,h1'.2.1,h1'.2.2.1,h1'.2.2.2⟩
  have e:hasL (m.take i) (m.getD i [])=Nat.beq (addL (tidL (m.take i)) (m.getD i [])).length (tidL (m.take i)).length:=by
   unfold hasL
   rw[Bool.eq_iff_iff,beq_iff_eq,Nat.beq_eq]
   omega
  have go: ∀o',fsG m f (i+1) (addL (tidL (m.take i)) (m.getD i [])) o' k=true→fsS m i o=o'→(∀j,i≤j→j<m.length→hasOk (m.take j) (m.getD j [])=true)∧tidOk m=true∧k (tidL m) (runN (fsS m) (f+1) i o)=true:=fun o' hg he=>by
   rw[←s2]at hg
   obtain⟨r1,r2,r3⟩:=fsG_spec m hm k f (i+1) o' (by omega) ht' hg
   refine⟨fun j j1 j2=> ?_,r2, ?_⟩
   ·by_cases ej:j=i
    ·subst ej;exact hh
    ·exact r1 j (by omega) j2
   ·show k (tidL m) (runN (fsS m) f (i+1) (fsS m i o))=true
    rw[he];exact r3
  cases hb:Nat.beq (addL (tidL (m.take i)) (m.getD i [])).length (tidL (m.take i)).length with
  |true=>rw[hb]at h3;exact go o h3 (by unfold fsS;rw[e,hb];rfl)
  |false=>rw[hb]at h3;exact go _ h3 (by unfold fsS;rw[e,hb];rfl)
def chkBy (k:Int) (rows:List (List Int)) (i:Nat):Bool:=fL (byD rows (rowL k i)) fun b=>Nat.beq b.length rows.length&&allK (fun q=>mod0 (sumI (fun j=>b.getD j 0*(rows.getD j []).getD q 0) rows.length-(rowL k i).getD q 0)) 4
def okG (k:Int) (c:List Bool):Nat→Nat→List (List Int)→List (List Int)→(List (List Int)→Bool)→Bool
 |0,_,rows,t,K=>K rows
 |f+1,i,rows,t,K=>bif c.getD i false then((decide (rows.length≤1000)&&(okC (rowL k i) t&&decide ((rowL k i).length≤1000)))&&fLL (addL t (rowL k i)) fun t'=>bif Nat.beq t'.length t.length then chkBy k rows i&&okG k c f (i+1) rows t K else okG k c f (i+1) (rows++[rowL k i]) t' K)else okG k c f (i+1) rows t K
def byGo (k:Int) (c:List Bool):Nat→Nat→List (List Int)→Bool
 |0,_,_=>true
 |f+1,i,rows=>(bif c.getD i false&&hasL rows (rowL k i)then chkBy k rows i else true)&&byGo k c f (i+1) (rwT k c i rows)
theorem okG_spec (k:Int) (c:List Bool) (K:List (List Int)→Bool): ∀(f i:Nat) (rows:List (List Int)),tidOk rows=true→okG k c f i rows (tidL rows) K=true→
  okGo k c f i rows=true∧byGo k c f i rows=true∧K (runN (rwT k c) f i rows)=true
 |0,i,rows,ht,h=>⟨rfl,rfl,h⟩
 |f+1,i,rows,ht,h=>by
  simp only[okG,okGo,byGo]at h⊢
  have er:runN (rwT k c) (f+1) i rows=runN (rwT k c) f (i+1) (rwT k c i rows):=rfl
  rw[er]
  cases hc:c.getD i false with
  |false=>
   rw[hc,cond_false]at h
   have e:rwT k c i rows=rows:=by unfold rwT;rw[hc];rfl
   rw[e]
   simpa using okG_spec k c K f (i+1) rows ht h
  |true=>
   rw[hc,cond_true]at h
   simp only[fLL_eq,Bool.and_eq_true,decide_eq_true_eq]at h
   obtain⟨⟨h0,h1,h2⟩,h3⟩:=h
   have h1':=h1
   simp only[okC,Bool.and_eq_true,decide_eq_true_eq]at h1'
   have hh:hasOk rows (rowL k i)=true:=by
    simp only[hasOk,Bool.and_eq_true,decide_eq_true_eq]
    exact⟨h0,ht,h2,h1'.2.1,h1'.2.2.1,h1'.2.2.2⟩
   have e:hasL rows (rowL k i)=Nat.beq (addL (tidL rows) (rowL k i)).length (tidL rows).length:=by
    unfold hasL
    rw[Bool.eq_iff_iff,beq_iff_eq,Nat.beq_eq]
    omega
   obtain⟨s1,s2⟩:=tid_snoc rows (rowL k i)
   cases hb:Nat.beq (addL (tidL rows) (rowL k i)).length (tidL rows).length with
   |true=>
    rw[hb,cond_true,Bool.and_eq_true]at h3
    have er:rwT k c i rows=rows:=by unfold rwT;rw[hc,e,hb];rfl
    rw[er]
    obtain⟨r1,r2,r3⟩:=okG_spec k c K f (i+1) rows ht h3.2
    refine⟨by simp[hh,r1],by rw[e,hb];simp[h3.1,r2],r3⟩
   |false=>
    rw[hb,cond_false,←s2]at h3
    have er:rwT k c i rows=rows++[rowL k i]:=by unfold rwT;rw[hc,e,hb];rfl
    rw[er]
    obtain⟨r1,r2,r3⟩:=okG_spec k c K f (i+1) (rows++[rowL k i]) (by rw[s1,ht,h1];rfl) h3
    refine⟨by simp[hh,r1],by rw[e,hb];simp[r2],r3⟩
def extG (k:Int):Nat→Nat→List (List Int)→List Int→(List Int→Bool)→Bool
 |0,_,t,T,K=>K T
 |f+1,i,t,T,K=>bif Nat.ble 4 T.length then K T else fLL (addL t (rowL k i)) fun t'=>bif Nat.beq t'.length t.length then extG k f (i+1) t T K else extG k f (i+1) t' (T++[(i:Int)]) K
theorem extG_spec (k:Int) (K:List Int→Bool): ∀(f i:Nat) (t:List (List Int)) (T:List Int),extG k f i t T K=true→ ∃X,K (T++X)=true∧(4≤T.length→X=[])
 |0,i,t,T,h=>⟨[],by simpa [extG]using h,fun _=>rfl⟩
 |f+1,i,t,T,h=>by
  simp only[extG,fLL_eq]at h
  cases hl:Nat.ble 4 T.length with
  |true=>rw[hl]at h;exact⟨[],by simpa using h,fun _=>rfl⟩
  |false=>
   have hn: ¬4≤T.length:=fun h'=>by rw[Nat.ble_eq_true_of_le h']at hl;cases hl
   rw[hl,cond_false]at h
   cases hb:Nat.beq (addL t (rowL k i)).length t.length with
   |true=>
    rw[hb]at h
    obtain⟨X,h1,h2⟩:=extG_spec k K f (i+1) t T h
    exact⟨X,h1,h2⟩
   |false=>
    rw[hb]at h
    obtain⟨X,h1,h2⟩:=extG_spec k K f (i+1) _ _ h
    exact⟨(i:Int)::X,by simpa using h1,fun h'=>absurd h' hn⟩
def dl (i j:Nat):Int:=bif Nat.beq i j then 1 else 0
def byDr (r:List Int):List Int:=bif bet (leadL r) 0 3 then []else scaleL (r.drop 4) 30
def byG:Nat→Nat→List (List Int)→List Int→List Int→List Int→List Int→(List Int→List Int→List Int→List Int→Bool)→Bool
 |0,_,_,a,b,c,d,K=>K a b c d
 |f+1,i,rows,a,b,c,d,K=>match runE (byF rows i) rows.length 0 ()with
  |.inl _=>byG f (i+1) rows a b c d K
  |.inr j=>fLL (byK i j rows) fun rows'=>fL (nlL a (rows'.getD j [])) fun a'=>fL (nlL b (rows'.getD j [])) fun b'=>fL (nlL c (rows'.getD j [])) fun c'=>fL (nlL d (rows'.getD j [])) fun d'=>byG f (i+1) rows' a' b' c' d' K
theorem byG_eq (K:List Int→List Int→List Int→List Int→Bool): ∀(f i:Nat) (rows:List (List Int)) (a b c d:List Int),byG f i rows a b c d K=K (runN byT f i (rows,a)).2 (runN byT f i (rows,b)).2 (runN byT f i (rows,c)).2 (runN byT f i (rows,d)).2
 |0,i,rows,a,b,c,d=>rfl
 |f+1,i,rows,a,b,c,d=>by
  have e: ∀x,runN byT (f+1) i (rows,x)=runN byT f (i+1) (byT i (rows,x)):=fun _=>rfl
  rw[e,e,e,e]
  unfold byG byT
  dsimp only
  cases runE (byF rows i) rows.length 0 ()with
  |inl _=>exact byG_eq K f (i+1) rows a b c d
  |inr j=>simp only[fL_eq,fLL_eq];exact byG_eq K f (i+1) _ _ _ _ _
def byN (m:List (List Int)) (K:List (List Int)→Bool):Bool:=
 fLL (bwL m) fun rows=>byG 4 0 rows (unL 0++List.replicate m.length 0) (unL 1++List.replicate m.length 0) (unL 2++List.replicate m.length 0) (unL 3++List.replicate m.length 0) fun a b c d=>
  fL (byDr a) fun a=>fL (byDr b) fun b=>fL (byDr c) fun c=>fL (byDr d) fun d=>K [a,b,c,d]
theorem byN_eq (m:List (List Int)) (K:List (List Int)→Bool):byN m K=K [byD m (unL 0),byD m (unL 1),byD m (unL 2),byD m (unL 3)]:=by
 have e: ∀v,byD m v=byDr (runN byT 4 0 (bwL m,v++List.replicate m.length 0)).2:=fun v=>by unfold byD byDr byE;rfl
 simp only[byN,fL_eq,fLL_eq,byG_eq,e]
def chkI (k:Int) (T:List Int):Bool:=fLL (rfL k T) fun m=>byN m fun N=>Nat.beq T.length 4&&(allShard T&&(allK (fun i=>Nat.beq (N.getD i []).length 4&&(allK (fun j=>mod0 (sumI (fun q=>(m.getD i []).getD q 0*(N.getD q []).getD j 0) 4-dl i j)) 4&&
 allK (fun q=>mod0 (sumI (fun j=>(N.getD i []).getD j 0*(m.getD j []).getD q 0) 4-dl i q)) 4)) 4))
def frF (c:List Bool) (fst:List Int):List Int:=runN (frS c fst) fst.length 0 []
def chkB (k:Int) (c:List Bool):Bool:=fLL (rwL k c) fun m=>decide (m.length≤1000)&&fsG m m.length 0 [] [] fun t fst=>Nat.beq fst.length t.length&&(Nat.ble fst.length 4&&(places fst (flg c).length&&fL (frF c fst) fun T=>
 okG k c 8 0 [] [] fun rows=>(rows==rfL k T)&&extG k 8 0 t T fun T'=>fL T' fun T'=>chkI k T'))
end Go.Proofs.YthapjdpkelihiaaGreat.Am
end
