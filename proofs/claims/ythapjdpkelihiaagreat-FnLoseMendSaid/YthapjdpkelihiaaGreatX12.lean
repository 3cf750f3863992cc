/- DERIVED. Part 12 of the proof: P5, C45, C46, C47, C48, C49, C50, C51, C52, P6. No statement of the program is proved here. -/
import Derived.Test.YthapjdpkelihiaaGreatX11
set_option linter.unusedSimpArgs false
set_option linter.unusedVariables false
set_option linter.unusedSectionVars false
namespace Go.Proofs.YthapjdpkelihiaaGreat.Am
section
theorem HR {k:Int} {c:List Bool} (hk:bet k 1 2=true) (hc:c.length=8):DR k (flg c) (spK k (flg c)).1 (spK k (flg c)).2.length=true∧DS (eO k z8 (flg c)) (spK k (flg c)).2.length=true∧DT k c (eO k z8 (flg c)) (spK k (flg c)).2.length=true:=
 HH (P:=fun k c=>DR k (flg c) (spK k (flg c)).1 (spK k (flg c)).2.length=true∧DS (eO k z8 (flg c)) (spK k (flg c)).2.length=true∧DT k c (eO k z8 (flg c)) (spK k (flg c)).2.length=true) (f:=CE)
  (fun k c h=>HS h) QK QL QM QN hk hc
theorem CH {n:Nat} {zs:List Int} (hz:zs.length=n*5) {i j:Nat} {at_:Int} (hj:j<n) (hi:i<n) (hij:j≠i) {p:Nat} (hp:p<n):
  (nC zs i at_ j).getD (p*5+4) 0=if p=j then(zs.getD (j*5+4) 0-zs.getD (i*5+4) 0*elC zs at_ j%31)%31 else zs.getD (p*5+4) 0:=by
 have r4: ∀p,p<n→(lQ zs i at_ j).getD (p*5+4) 0=zs.getD (p*5+4) 0:=fun p hp=>by
  unfold lQ K7
  rw[aX,if_neg (by omega),aX,if_neg (by omega),aX,if_neg (by omega),aX,if_neg (by omega)]
 have hl:(lQ zs i at_ j).length=zs.length:=by simp[lQ,K7]
 unfold nC
 by_cases e:p=j
 ·subst e
  rw[if_pos rfl,aX,if_pos ⟨rfl,by omega⟩,r4 p hp,r4 i hi]
 ·rw[if_neg e,aX,if_neg (by omega),r4 p hp]
def sA (n:Nat) (d zs:List Int):Prop:=zs.length=n*5∧ ∀j,j<n→zz (zs.getD (j*5+4) 0)=zz (zs.getD (j*5+0) 0)*zz (d.getD 0 0)+zz (zs.getD (j*5+1) 0)*zz (d.getD 1 0)+zz (zs.getD (j*5+2) 0)*zz (d.getD 2 0)+zz (zs.getD (j*5+3) 0)*zz (d.getD 3 0)
theorem sA.elim {n i j:Nat} {at_:Int} {d zs:List Int} (h:sA n d zs) (hi:i<n) (hj:j<n):sA n d (jV i at_ j zs):=by
 obtain⟨h1,h2⟩:=h
 unfold jV
 cases hb:((j:Int)!=(i:Int))&&(elC zs at_ j !=0)
 ·exact⟨h1,h2⟩
 ·have hij:j≠i:=by
   intro e;subst e;simp at hb
  rw[cond_true]
  refine⟨by rw[l3];exact h1,fun p hp=> ?_⟩
  rw[CH h1 hj hi hij hp,gY h1 hj hp (by omega),gY h1 hj hp (by omega),gY h1 hj hp (by omega),gY h1 hj hp (by omega)]
  by_cases e:p=j
  ·subst e
   simp only[if_true]
   unfold elE
   simp only[mU,WF,kV,gF,a59,h2 p hp,h2 i hi]
   grind
  ·simp only[if_neg e]
   exact h2 p hp
theorem sA.red {n:Nat} {d:List Int}: ∀(f i:Nat) {zs:List Int},sA n d zs→i+f≤n→sA n d (bP (lM n) f i zs)
 |0,i,zs,h,_=>h
 |f+1,i,zs,h,hi=>by
  refine sA.red f (i+1) (zs:=lM n i zs) ?_ (by omega)
  exact bH (step:=jV i (ld5 zs i)) (fun _ z=>sA n d z) n zs h fun j z hj hz=>hz.elim (by omega) hj
theorem FU (w v ys:List Int) (r:Nat):(m6 w v ys r).length=r*5∧ ∀j,j<r→(∀q,q<4→(m6 w v ys r).getD (j*5+q) 0=ys.getD (j*12+q) 0)∧(m6 w v ys r).getD (j*5+4) 0=AU w v (lN ys j):=by
 refine bH (step:=jY w v ys) (fun i zs=>zs.length=i*5∧ ∀j,j<i→(∀q,q<4→zs.getD (j*5+q) 0=ys.getD (j*12+q) 0)∧zs.getD (j*5+4) 0=AU w v (lN ys j)) r [] ⟨rfl,fun j hj=>by omega⟩ fun k zs hk h=> ?_
 obtain⟨h1,h2⟩:=h
 refine⟨by simp[jY,h1];omega,fun j hj=>⟨fun q hq=> ?_, ?_⟩⟩
 ·unfold jY
  rw[dY,h1]
  by_cases e:j*5+q<k*5
  ·rw[if_pos e];exact(h2 j (by omega)).1 q hq
  ·rw[if_neg e]
   have:j=k:=by omega
   subst this
   rw[show j*5+q-j*5=q from by omega]
   match q,hq with
   |0,_|1,_|2,_|3,_=>rfl
 ·unfold jY
  rw[dY,h1]
  by_cases e:j*5+4<k*5
  ·rw[if_pos e];exact(h2 j (by omega)).2
  ·rw[if_neg e]
   have:j=k:=by omega
   subst this
   rw[show j*5+4-j*5=4 from by omega]
   rfl
theorem K4 (ys:List Int) (i:Nat) {q:Nat} (hq:q<12):(lN ys i).getD q 0=ys.getD (i*12+q) 0:=by
 match q,hq with
 |0,_|1,_|2,_|3,_|4,_|5,_|6,_|7,_|8,_|9,_|10,_|11,_=>rfl
theorem A5 (zs r:List Int): ∀n,(∀i,i<n→bet (ld5 zs i) 0 3=true)→(∀i,i<n→ ∀j,j<i→ld5 zs i≠ld5 zs j)→
  dz r (uU zs n)=eF (fun i=>zz (r.getD (ld5 zs i).toNat 0)*zz (zs.getD (i*5+4) 0)) n∧(uU zs n).length=4∧ ∀q:Nat,q<4→(∀i,i<n→ld5 zs i≠(q:Int))→(uU zs n).getD q 0=0
 |0,_,_=>⟨by
   show dz r [0,0,0,0]=0
   simp only[dz,List.getD_cons_zero,List.getD_cons_succ,lJ];grind,rfl,fun q hq _=>by
   match q,hq with
   |0,_|1,_|2,_|3,_=>rfl⟩
 |n+1,hb,hd=>by
  obtain⟨i1,i2,i3⟩:=A5 zs r n (fun i hi=>hb i (by omega)) (fun i hi j hj=>hd i (by omega) j hj)
  have e:uU zs (n+1)=(uU zs n).set (ld5 zs n).toNat (zs.getD (n*5+4) 0):=by
   have gen: ∀(f i:Nat) (o:List Int),bP (uV zs) (f+1) i o=uV zs (i+f) (bP (uV zs) f i o):=by
    intro f
    induction f with
    |zero=>intro i o;rfl
    |succ f ih=>intro i o;have:=ih (i+1) (uV zs i o);rw[show i+1+f=i+(f+1)from by omega]at this;exact this
   have:=gen n 0 [0,0,0,0]
   rw[Nat.zero_add]at this
   exact this
  have hbn:=b8.1 (hb n (by omega))
  have z:(uU zs n).getD (ld5 zs n).toNat 0=0:=i3 (ld5 zs n).toNat (by omega) fun i hi he=>hd n (by omega) i hi (by omega)
  rw[e]
  refine⟨?_,by rw[List.length_set];exact i2,fun q hq hn=> ?_⟩
  ·simp only[eF]
   rw[←i1]
   have hp:(ld5 zs n).toNat<4:=by omega
   revert z hp
   generalize (ld5 zs n).toNat=p
   generalize zs.getD (n*5+4) 0=x
   intro z hp
   simp only[dz,aX,i2]
   match p,hp with
   |0,_=>simp[-List.getD_eq_getElem?_getD];rw[z,lJ];grind
   |1,_=>simp[-List.getD_eq_getElem?_getD];rw[z,lJ];grind
   |2,_=>simp[-List.getD_eq_getElem?_getD];rw[z,lJ];grind
   |3,_=>simp[-List.getD_eq_getElem?_getD];rw[z,lJ];grind
  ·rw[aX,if_neg (by have:=hn n (by omega);omega)]
   exact i3 q hq fun i hi=>hn i (by omega)
theorem LW {k:Int} {w:List Int} {c:List Bool} {d:List Int} (hk:bet k 1 2=true) (hc:c.length=8) (h:Fit k w c d):Fit k w c (dS k w (flg c)):=by
 obtain⟨a1,a2,a3⟩:=HR hk hc
 obtain⟨so,re⟩:=u7 (w:=w) (w':=z8) (wF (w:=z8) hk hc)
 simp only[dU,Bool.and_eq_true]at so
 obtain⟨t1,t2⟩:=FU w (flg c) (spK k (flg c)).1 (spK k (flg c)).2.length
 have sp:=rT hk (l4 hc)
 have g0:sA (spK k (flg c)).2.length d (AQ k w (flg c)):=by
  refine⟨t1,fun j hj=> ?_⟩
  obtain⟨u1,u2⟩:=t2 j hj
  unfold AQ
  rw[u2,u1 0 (by omega),u1 1 (by omega),u1 2 (by omega),u1 3 (by omega),OY]
  have e:eF (fun j'=>zz ((lN (spK k (flg c)).1 j).getD (j'+4) 0)*zz (w.getD ((flg c).getD j' 0).toNat 0)) (flg c).length=eF (fun j'=>zz ((spK k (flg c)).1.getD (j*12+(j'+4)) 0)*dz (aL k ((flg c).getD j' 0)) d) (flg c).length:=by
   refine dH fun i hi=> ?_
   have hl:=nG c
   rw[K4 _ _ (by omega)]
   obtain⟨a,ha,hca,hg⟩:=rM hc hi
   rw[hg,Int.toNat_natCast,←h a ha hca,gH]
  rw[e,oG (flg c).length _ (fun j'=>aL k ((flg c).getD j' 0)) [(spK k (flg c)).1.getD (j*12+0) 0,(spK k (flg c)).1.getD (j*12+1) 0,(spK k (flg c)).1.getD (j*12+2) 0,(spK k (flg c)).1.getD (j*12+3) 0] d fun q hq=> ?_]
  ·rfl
  ·have:=l8 (aY (aY a1 j hj) q hq)
   rw[iE]at this
   simp only[gF]at this
   rw[this]
   match q,hq with
   |0,_|1,_|2,_|3,_=>rfl
 have g1:sA (spK k (flg c)).2.length d (eO k w (flg c)):=sA.red _ 0 g0 (by omega)
 intro a ha hca
 refine pZ (gL _ _ _) (by rw[←h a ha hca];exact gL _ _ _) ?_
 rw[gH,←h a ha hca,gH]
 have ld: ∀i,i<(spK k (flg c)).2.length→ld5 (eO k w (flg c)) i=ld5 (eO k z8 (flg c)) i:=fun i hi=>re.ld hi
 obtain⟨o1,-,-⟩:=A5 (eO k w (flg c)) (aL k a) (spK k (flg c)).2.length (fun i hi=>aY so.2 i hi) (fun i hi j hj=>by
  have:=aY (aY a2 i hi) j hj
  rw[ld i hi,ld j (by omega)]
  simpa using this)
 unfold dS
 rw[o1]
 have e:eF (fun i=>zz ((aL k a).getD (ld5 (eO k w (flg c)) i).toNat 0)*zz ((eO k w (flg c)).getD (i*5+4) 0)) (spK k (flg c)).2.length=
   eF (fun i=>zz ((aL k a).getD (ld5 (eO k z8 (flg c)) i).toNat 0)*dz [(eO k z8 (flg c)).getD (i*5+0) 0,(eO k z8 (flg c)).getD (i*5+1) 0,(eO k z8 (flg c)).getD (i*5+2) 0,(eO k z8 (flg c)).getD (i*5+3) 0] d) (spK k (flg c)).2.length:=by
  refine dH fun i hi=> ?_
  rw[ld i hi,g1.2 i hi,re.2.2 i hi 0 (by omega),re.2.2 i hi 1 (by omega),re.2.2 i hi 2 (by omega),re.2.2 i hi 3 (by omega)]
  rfl
 rw[e]
 refine oG _ _ (fun i=>[(eO k z8 (flg c)).getD (i*5+0) 0,(eO k z8 (flg c)).getD (i*5+1) 0,(eO k z8 (flg c)).getD (i*5+2) 0,(eO k z8 (flg c)).getD (i*5+3) 0]) _ d fun q hq=> ?_
 have h3:=aY a3 a ha
 rw[hca,Bool.not_true,Bool.false_or]at h3
 have:=l8 (aY h3 q hq)
 rw[iE]at this
 simp only[gF]at this
 rw[←this]
 refine dH fun i hi=> ?_
 match q,hq with
 |0,_|1,_|2,_|3,_=>rfl
theorem gM {k:Int} {w:List Int} {c:List Bool} {d:List Int} (hk:bet k 1 2=true) (hc:c.length=8) (h:Fit k w c d):cJ k w (flg c)=true:=(kH hc).2 (LW hk hc h)
end
section
noncomputable def T51:List bF:=[⟨54,[],dZ tt (aB T50) Tryz.f54 []⟩]++T50
theorem e51:a8 Tryz.prog T51:=by
 refine a8.append ?_ e50
 intro e he
 simp only[List.mem_cons,List.not_mem_nil,or_false]at he
 subst he;exact JC
theorem t51:bN Tryz.prog (aB T51):=aP e51
noncomputable abbrev f105:=Tryz.f115
noncomputable def uG (k:Int) (a b:List Int) (c:List Bool) (x:Int) (n:Nat) (out:List Bool) (i:Int):St:=
 bA f105.ntmps [(1,.c (.int .i64 x)),(2,.c (.ptr 0 0 0 0)),(5,.c (.sl 1 0 n 1 none)),(6,.c (.int .i64 i))] [.live (.cells [.int .i64 k,.view none (.ints .i64 a) a.length 1 none,.view none (.ints .i64 b) b.length 1 none,.view none (.bools c) c.length 1 none]),.live (.bools out)]
noncomputable def KS (n:Nat) (out:List Bool):St:=bA f105.ntmps [(5,.c (.sl 0 0 n 1 none))] [.live (.bools out)]
theorem RR (k:Int) (a b:List Int) (c:List Bool) (x:Int) (n:Nat) (out:List Bool) (i:Int):aH 0 (aA f105 0) (aD f105 0) (aK tt (aB T51) ([]) 0 100 (a6 0 (a7 f105)) (uG k a b c x n out i) [(0,true),(0,true)])=
  some (.normal,(decide (i<(↑c.length:Int))&&(decide (0≤i)&&(decide (i<(↑c.length:Int))&&(decide (i.toNat<c.length)&&((c.getD i.toNat false)&&((c.getD i.toNat false)&&((c.getD i.toNat false)&&((c.getD i.toNat false)&&(decide (0≤i)&&(decide (i<(↑b.length:Int))&&((c.getD i.toNat false)&&(decide (i.toNat<b.length)&&((c.getD i.toNat false)&&((c.getD i.toNat false)&&(decide (n=out.length)&&((decide (n+1≤274877906944))&&true)))))))))))))))),[],uG k a b c x (n+1) (out++[bif c.getD i.toNat false then b.getD i.toNat 0==x else false]) (IntKind.i64.wrap (i+1))):=by kernel_rfl
theorem RS (k:Int) (a b:List Int) (c:List Bool) (x:Int) (n:Nat) (out:List Bool) (i:Int):aH 0 (aA f105 0) (aD f105 0) (aK tt (aB T51) ([]) 0 100 (a6 0 (a7 f105)) (uG k a b c x n out i) [(0,true),(0,false)])=
  some (.normal,(decide (i<(↑c.length:Int))&&(decide (0≤i)&&(decide (i<(↑c.length:Int))&&(decide (i.toNat<c.length)&&((!c.getD i.toNat false)&&((!c.getD i.toNat false)&&((!c.getD i.toNat false)&&((!c.getD i.toNat false)&&((!c.getD i.toNat false)&&((!c.getD i.toNat false)&&((!c.getD i.toNat false)&&((!c.getD i.toNat false)&&(decide (n=out.length)&&((decide (n+1≤274877906944))&&true)))))))))))))),[],uG k a b c x (n+1) (out++[false]) (IntKind.i64.wrap (i+1))):=by kernel_rfl
theorem RT (k:Int) (a b:List Int) (c:List Bool) (x:Int) (n:Nat) (out:List Bool) (i:Int):aH 0 (aA f105 0) (aD f105 0) (aK tt (aB T51) ([]) 0 100 (a6 0 (a7 f105)) (uG k a b c x n out i) [(0,false)])=
  some (.exit 0,((!decide (i<(↑c.length:Int)))&&true),[],KS (n) (out)):=by kernel_rfl
noncomputable abbrev f58:=Tryz.f60
noncomputable def I58 (k:Int) (a b:List Int) (c:List Bool) (n i:Int):St:=bA f58.ntmps [(1,.c (.ptr 0 0 0 0)),(3,.c (.int .i64 n)),(4,.c (.int .i64 i))] [.live (.cells [.int .i64 k,.view none (.ints .i64 a) a.length 1 none,.view none (.ints .i64 b) b.length 1 none,.view none (.bools c) c.length 1 none])]
noncomputable def X58 (n:Int):St:=bA f58.ntmps [(3,.c (.int .i64 n))] []
theorem ZG (k:Int) (a b:List Int) (c:List Bool) (n i:Int):aH 0 (aA f58 0) (aD f58 0) (aK tt (aB T51) ([]) 0 100 (a6 0 (a7 f58)) (I58 k a b c n i) [(0,true)])=
  some (.normal,(decide (i<(↑b.length:Int))&&(decide (0≤i)&&(decide (i<(↑b.length:Int))&&((decide (i.toNat<b.length))&&true)))),[],I58 k a b c (if b.getD i.toNat 0>n then b.getD i.toNat 0 else n) (IntKind.i64.wrap (i+1))):=by kernel_rfl
theorem ZH (k:Int) (a b:List Int) (c:List Bool) (n i:Int):aH 0 (aA f58 0) (aD f58 0) (aK tt (aB T51) ([]) 0 100 (a6 0 (a7 f58)) (I58 k a b c n i) [(0,false)])=
  some (.exit 0,((!decide (i<(↑b.length:Int)))&&true),[],X58 (n)):=by kernel_rfl
noncomputable abbrev f55:=Tryz.f57
noncomputable def I55 (v:List Int) (c:List Bool) (i:Int):St:=bA f55.ntmps [(0,.c (.view none (.ints .i64 v) v.length 1 none)),(1,.c (.view none (.bools c) c.length 1 none)),(5,.c (.int .i64 i))] []
noncomputable def X55 (v:List Int) (c:List Bool):St:=bA f55.ntmps [(0,.c (.view none (.ints .i64 v) v.length 1 none)),(1,.c (.view none (.bools c) c.length 1 none))] []
noncomputable def Y55 (v:List Int) (c:List Bool):St:=bA f55.ntmps [(0,.c (.view none (.ints .i64 v) v.length 1 none)),(1,.c (.view none (.bools c) c.length 1 none)),(4,.c (.bool false))] []
theorem Z2 (v:List Int) (c:List Bool) (i:Int):aH 0 (aA f55 0) (aD f55 0) (aK tt (aB T51) ([]) 0 100 (a6 0 (a7 f55)) (I55 v c i) [(0,true),(0,true)])=
  some (.ret,(decide (i<(↑v.length:Int))&&(decide (0≤i)&&(decide (i<(↑v.length:Int))&&(decide (i.toNat<v.length)&&((!fok (v.getD i.toNat 0))&&true))))),[],Y55 v c):=by kernel_rfl
theorem Z3 (v:List Int) (c:List Bool) (i:Int):aH 0 (aA f55 0) (aD f55 0) (aK tt (aB T51) ([]) 0 100 (a6 0 (a7 f55)) (I55 v c i) [(0,true),(0,false)])=
  some (.normal,(decide (i<(↑v.length:Int))&&(decide (0≤i)&&(decide (i<(↑v.length:Int))&&(decide (i.toNat<v.length)&&((!!fok (v.getD i.toNat 0))&&true))))),[],I55 v c (IntKind.i64.wrap (i+1))):=by kernel_rfl
theorem Z4 (v:List Int) (c:List Bool) (i:Int):aH 0 (aA f55 0) (aD f55 0) (aK tt (aB T51) ([]) 0 100 (a6 0 (a7 f55)) (I55 v c i) [(0,false)])=
  some (.exit 0,((!decide (i<(↑v.length:Int)))&&true),[],X55 v c):=by kernel_rfl
theorem a2S (k:Int) (a b:List Int) (c:List Bool) (on:Bool) (kd:Int) (d:List Int) (vs:Int):aG tt (aB T51) ([]) 100 Tryz.f53 [.agg [.int .i64 k,.view none (.ints .i64 a) a.length 1 none,.view none (.ints .i64 b) b.length 1 none,.view none (.bools c) c.length 1 none,.bool on,.int .i64 kd,.view none (.ints .i64 d) d.length 1 none,.int .i64 vs]] [] []=
  some ⟨.agg [.int .i64 k,.sl 0 0 a.length 1 none,.sl 1 0 b.length 1 none,.sl 2 0 c.length 1 none,.bool on,.int .i64 kd,.sl 3 0 (0+d.length) 1 none,.int .i64 vs],[.live (.ints .i64 a),.live (.ints .i64 b),.live (.bools c),.live (.ints .i64 ([]++d))],(decide (a.length≤274877906944)&&(decide (b.length≤274877906944)&&(decide (c.length≤274877906944)&&((decide (0+d.length≤274877906944))&&true)))),[]⟩:=by kernel_rfl
def wR:aQ:=fun args h=>
 match args,h with
 |[.agg [.int .i64 k,.view _ (.ints .i64 a) n1 1 _,.view _ (.ints .i64 b) n2 1 _,.view _ (.bools c) n3 1 _,.bool on,.int .i64 kd,.view _ (.ints .i64 d) n4 1 _,.int .i64 vs]],[]=>
  some (.agg [.int .i64 k,.sl 0 0 a.length 1 none,.sl 1 0 b.length 1 none,.sl 2 0 c.length 1 none,.bool on,.int .i64 kd,.sl 3 0 d.length 1 none,.int .i64 vs],[.live (.ints .i64 a),.live (.ints .i64 b),.live (.bools c),.live (.ints .i64 d)],[decide (a.length≤274877906944),decide (b.length≤274877906944),decide (c.length≤274877906944),decide (d.length≤274877906944)])
 |_,_=>none
theorem m51:aV Tryz.prog 53 wR:=by
 intro args h res h' o hnorm he ho
 unfold wR at he
 split at he
 case h_2=>cases he
 rename_i k nl1 a n1 cap1 nl2 b n2 cap2 nl3 c n3 cap3 on kd nl4 d n4 cap4 vs
 simp only[Option.some.injEq,Prod.mk.injEq]at he
 obtain⟨rfl,rfl,rfl⟩:=he
 simp only[List.mem_cons,List.not_mem_nil,or_false,forall_eq_or_imp,forall_eq,decide_eq_true_eq]at ho
 obtain⟨o1,o2,o3,o4⟩:=ho
 simp only[bG,AV.norm,bI,aJ.norm,Con.size,List.cons.injEq,AV.c.injEq,AV.agg.injEq,aJ.view.injEq,aN,true_and,and_true]at hnorm
 obtain⟨⟨rfl,rfl,rfl⟩,⟨rfl,rfl,rfl⟩,⟨rfl,rfl,rfl⟩,rfl,rfl,rfl⟩:=hnorm
 have e:=a2S k a b c on kd d vs
 simp only[Nat.zero_add]at e
 exact a5 t51 (by kernel_rfl) (by kernel_rfl) e (by simp[o1,o2,o3,o4]) (by simp) (fun c _=>aF.nil)
theorem D6 {v:List Bool} {n:Nat} (h:n<v.length):v.take (n+1)=v.take n++[v.getD n false]:=by
 rw[List.take_add_one,List.getD_eq_getElem?_getD,List.getElem?_eq_getElem h];rfl
def ofS (b:List Int) (c:List Bool) (x:Int) (i:Nat) (o:List Bool):List Bool:=o++[bif c.getD i false then b.getD i 0==x else false]
theorem MC (b:List Int) (c:List Bool) (x:Int):bP (ofS b c x) c.length 0 []=aU b c x:=by
 have h:=bH (step:=ofS b c x) (fun i o=>o=(aU b c x).take i) c.length [] (by simp) fun i o hi h=>by
  subst h
  unfold ofS
  rw[D6 (by rw[bV];exact hi),eJ b c x i hi]
  congr 2
  cases c.getD i false<;>simp[bne]
 rw[h,←bV b c x,List.take_length]
theorem a5H (k:Int) (a b:List Int) (c:List Bool) (x:Int) (hc:c.length≤274877906944) (hb:b.length=c.length):
  aW Tryz.prog 0 (.block 0 (.loop (a6 0 (a7 f105)))) (uG k a b c x 0 [] 0) fun e t=>e=.normal∧t=KS c.length (aU b c x):=by
 have key:=aW.count hT t51 bM (m:=0) (id:=0) (body:=a6 0 (a7 f105)) c.length (fun i o=>o.length=i) (fun i o=>uG k a b c x o.length o i) (fun o=>KS o.length o) (ofS b c x) (aA f105 0) (aD f105 0)
  (fun _ _=>[]) (fun _ _ _ _=>aF.nil) (fun i o hi h=>⟨by simp[ofS,h], ?_⟩) (fun o h=>⟨_,_,⟨_,_,RT k a b c x o.length o c.length,by simp,by simp⟩⟩) [] rfl
 ·rw[MC,bV]at key;exact key
 ·unfold ofS
  rw[List.length_append]
  cases hq:c.getD i false with
  |true=>
   have e:=RR k a b c x o.length o i
   rw[aE (by omega) (by omega),Int.toNat_natCast,hq]at e
   refine⟨_,_,⟨_,_,e, ?_,by simp⟩⟩
   simp only[hq,bS]
   omega
  |false=>
   have e:=RS k a b c x o.length o i
   rw[aE (by omega) (by omega),Int.toNat_natCast]at e
   refine⟨_,_,⟨_,_,e, ?_,by simp⟩⟩
   simp only[hq,bS]
   omega
theorem U5 (k:Int) (a b:List Int) (c:List Bool) (x:Int):aG tt (aB T51) ([(0,⟨aA f105 0,uG k a b c x 0 [] 0,.normal,KS c.length (aU b c x)⟩)]) 100 f105 [.agg [.int .i64 k,.view none (.ints .i64 a) a.length 1 none,.view none (.ints .i64 b) b.length 1 none,.view none (.bools c) c.length 1 none],.c (.int .i64 x)] [] []=
  some ⟨.c (.sl 0 0 c.length 1 none),[.live (.bools (aU b c x))],true,[uG k a b c x 0 [] 0=uG k a b c x 0 [] 0]⟩:=by kernel_rfl
def GR:aQ:=fun args h=>
 match args,h with
 |[.agg [.int .i64 k,.view _ (.ints .i64 a) n1 1 _,.view _ (.ints .i64 b) n2 1 _,.view _ (.bools c) n3 1 _],.c (.int .i64 x)],[]=>
  some (.c (.sl 0 0 c.length 1 none),[.live (.bools (aU b c x))],[decide (c.length≤274877906944),decide (b.length=c.length)])
 |_,_=>none
theorem a68:aV Tryz.prog 115 GR:=by
 intro args h res h' o hnorm he ho
 unfold GR at he
 split at he
 case h_2=>cases he
 rename_i k nl1 a n1 cap1 nl2 b n2 cap2 nl3 c n3 cap3 x
 simp only[Option.some.injEq,Prod.mk.injEq]at he
 obtain⟨rfl,rfl,rfl⟩:=he
 simp only[List.mem_cons,List.not_mem_nil,or_false,forall_eq_or_imp,forall_eq,decide_eq_true_eq]at ho
 obtain⟨o1,o2⟩:=ho
 simp only[bG,AV.norm,bI,aJ.norm,Con.size,List.cons.injEq,AV.c.injEq,AV.agg.injEq,aJ.view.injEq,aN,true_and,and_true]at hnorm
 obtain⟨⟨rfl,rfl,rfl⟩,⟨rfl,rfl,rfl⟩,rfl,rfl,rfl⟩:=hnorm
 exact a5 t51 (fn:=f105) (by kernel_rfl) (by kernel_rfl) (U5 k a b c x) (by simp) (by simp) (fun cc hcc=>aF.cons (c:=cc) (by cases hcc;kernel_rfl) (by cases hcc;exact a5H k a b c x o1 o2) aF.nil)
def mxS (b:List Int) (i:Nat) (n:Int):Int:=if b.getD i 0>n then b.getD i 0 else n
def mxL (b:List Int):Int:=bP (mxS b) b.length 0 0
theorem l58 (k:Int) (a b:List Int) (c:List Bool) (hb:b.length≤274877906944):
  aW Tryz.prog 0 (.block 0 (.loop (a6 0 (a7 f58)))) (I58 k a b c 0 0) fun e t=>e=.normal∧t=X58 (mxL b):=by
 refine aW.count hT t51 bM (m:=0) (id:=0) (body:=a6 0 (a7 f58)) b.length (fun _ _=>True) (fun i n=>I58 k a b c n i) X58 (mxS b) (aA f58 0) (aD f58 0)
  (fun _ _=>[]) (fun _ _ _ _=>aF.nil) (fun i n hi h=>⟨trivial, ?_⟩) (fun n h=>⟨_,_,⟨_,_,ZH k a b c n b.length,by simp,by simp⟩⟩) 0 trivial
 have e:=ZG k a b c n i
 rw[aE (by omega) (by omega),Int.toNat_natCast]at e
 refine⟨_,_,⟨_,_,e, ?_,by simp⟩⟩
 simp only[bS]
 omega
theorem a30 (k:Int) (a b:List Int) (c:List Bool):aG tt (aB T51) ([(0,⟨aA f58 0,I58 k a b c 0 0,.normal,X58 (mxL b)⟩)]) 100 f58 [.agg [.int .i64 k,.view none (.ints .i64 a) a.length 1 none,.view none (.ints .i64 b) b.length 1 none,.view none (.bools c) c.length 1 none]] [] []=
  some ⟨.c (.int .i64 (mxL b)),[],true,[I58 k a b c 0 0=I58 k a b c 0 0]⟩:=by kernel_rfl
def PO:aQ:=fun args h=>
 match args,h with
 |[.agg [.int .i64 k,.view _ (.ints .i64 a) n1 1 _,.view _ (.ints .i64 b) n2 1 _,.view _ (.bools c) n3 1 _]],[]=>
  some (.c (.int .i64 (mxL b)),[],[decide (b.length≤274877906944)])
 |_,_=>none
theorem m58:aV Tryz.prog 60 PO:=by
 intro args h res h' o hnorm he ho
 unfold PO at he
 split at he
 case h_2=>cases he
 rename_i k nl1 a n1 cap1 nl2 b n2 cap2 nl3 c n3 cap3
 simp only[Option.some.injEq,Prod.mk.injEq]at he
 obtain⟨rfl,rfl,rfl⟩:=he
 simp only[List.mem_cons,List.not_mem_nil,or_false,forall_eq_or_imp,forall_eq,decide_eq_true_eq]at ho
 have o1:=ho
 simp only[bG,AV.norm,bI,aJ.norm,Con.size,List.cons.injEq,AV.c.injEq,AV.agg.injEq,aJ.view.injEq,aN,true_and,and_true]at hnorm
 obtain⟨⟨rfl,rfl,rfl⟩,⟨rfl,rfl,rfl⟩,rfl,rfl,rfl⟩:=hnorm
 exact a5 t51 (fn:=f58) (by kernel_rfl) (by kernel_rfl) (a30 k a b c) (by simp) (by simp) (fun cc hcc=>aF.cons (c:=cc) (by cases hcc;kernel_rfl) (by cases hcc;exact l58 k a b c o1) aF.nil)
theorem HJ (v:List Int):cC (fun i=>fok (v.getD i 0)) v.length 0=a9 v:=by
 rw[Bool.eq_iff_iff,bY]
 constructor
 ·intro h
  simp only[a9,List.all_eq_true]
  intro x hx
  obtain⟨i,hi⟩:=List.getElem?_of_mem hx
  have hlt:=(List.getElem?_eq_some_iff.1 hi).1
  have:=h i (by omega) (by omega)
  rw[List.getD_eq_getElem?_getD,hi]at this
  exact this
 ·intro h i _ _;exact aR h i
theorem l55 (v:List Int) (c:List Bool) (hv:v.length≤274877906944):
  aW Tryz.prog 0 (.block 0 (.loop (a6 0 (a7 f55)))) (I55 v c 0) fun e t=>e=(bif a9 v then .normal else .ret)∧t=bif a9 v then X55 v c else Y55 v c:=by
 have key:=aW.all hT t51 bM (m:=0) (id:=0) (body:=a6 0 (a7 f55)) v.length (fun i=>fok (v.getD i 0)) (fun i=>I55 v c i) (X55 v c) (Y55 v c) .ret (.inr rfl) (aA f55 0) (aD f55 0) (fun _=>[]) (fun _ _=>aF.nil) (fun i hi h=> ?_) (fun i hi h=> ?_)
  ⟨_,_,⟨_,_,Z4 v c v.length,by simp,by simp⟩⟩
 ·rw[HJ]at key;exact key
 ·have e:=Z3 v c i
  rw[aE (by omega) (by omega),Int.toNat_natCast]at e
  refine⟨_,_,⟨_,_,e, ?_,by simp⟩⟩
  simp only[h,bS]
  omega
 ·have e:=Z2 v c i
  rw[Int.toNat_natCast]at e
  rw[if_neg (by intro h;cases h)]
  refine⟨_,_,⟨_,_,e, ?_,by simp⟩⟩
  simp only[h,bS]
  omega
theorem a2T (v:List Int) (c:List Bool):aG tt (aB T51) ([(0,⟨aA f55 0,I55 v c 0,.normal,X55 v c⟩)]) 100 f55 [.c (.view none (.ints .i64 v) v.length 1 none),.c (.view none (.bools c) c.length 1 none)] [] [(0,true)]=
  some ⟨.c (.bool (bif (↑v.length:Int)==8 then(↑c.length:Int)==8 else false)),[],(((↑v.length:Int)==8)&&(((↑v.length:Int)==8)&&(((↑v.length:Int)==8)&&true))),[I55 v c 0=I55 v c 0]⟩:=by kernel_rfl
theorem a2U (v:List Int) (c:List Bool):aG tt (aB T51) ([(0,⟨aA f55 0,I55 v c 0,.normal,X55 v c⟩)]) 100 f55 [.c (.view none (.ints .i64 v) v.length 1 none),.c (.view none (.bools c) c.length 1 none)] [] [(0,false)]=
  some ⟨.c (.bool false),[],((!(↑v.length:Int)==8)&&((!(↑v.length:Int)==8)&&((!(↑v.length:Int)==8)&&((!(↑v.length:Int)==8)&&true)))),[I55 v c 0=I55 v c 0]⟩:=by kernel_rfl
theorem VV (v:List Int) (c:List Bool):aG tt (aB T51) ([(0,⟨aA f55 0,I55 v c 0,.ret,Y55 v c⟩)]) 100 f55 [.c (.view none (.ints .i64 v) v.length 1 none),.c (.view none (.bools c) c.length 1 none)] [] []=
  some ⟨.c (.bool false),[],true,[I55 v c 0=I55 v c 0]⟩:=by kernel_rfl
end
section
def bB (v:List Int) (c:List Bool):Bool:=a9 v&&(((v.length:Int)==8)&&((c.length:Int)==8))
def C1:aQ:=fun args h=>
 match args,h with
 |[.c (.view _ (.ints .i64 v) n 1 _),.c (.view _ (.bools c) n2 1 _)],[]=>
  some (.c (.bool (bB v c)),[],[decide (v.length≤274877906944)])
 |_,_=>none
theorem m55:aV Tryz.prog 57 C1:=by
 intro args h res h' o hnorm he ho
 unfold C1 at he
 split at he
 case h_2=>cases he
 rename_i nl v n cap nl2 c n2 cap2
 simp only[Option.some.injEq,Prod.mk.injEq]at he
 obtain⟨rfl,rfl,rfl⟩:=he
 simp only[List.mem_cons,List.not_mem_nil,or_false,forall_eq_or_imp,forall_eq,decide_eq_true_eq]at ho
 have o1:=ho
 simp only[bG,AV.norm,bI,aJ.norm,Con.size,List.cons.injEq,AV.c.injEq,AV.agg.injEq,aJ.view.injEq,aN,true_and,and_true]at hnorm
 obtain⟨⟨rfl,rfl,rfl⟩,rfl,rfl,rfl⟩:=hnorm
 have g:=l55 v c o1
 unfold bB
 cases hf:a9 v with
 |false=>
  rw[hf]at g
  exact a5 t51 (fn:=f55) (by kernel_rfl) (by kernel_rfl) (VV v c) (by simp) (by simp) (fun cc hcc=>aF.cons (c:=cc) (by cases hcc;kernel_rfl) (by cases hcc;exact g) aF.nil)
 |true=>
  rw[hf]at g
  cases hv:(v.length:Int)==8 with
  |true=>
   have e:=a2T v c
   rw[hv]at e
   exact a5 t51 (fn:=f55) (by kernel_rfl) (by kernel_rfl) e rfl (by simp) (fun cc hcc=>aF.cons (c:=cc) (by cases hcc;kernel_rfl) (by cases hcc;exact g) aF.nil)
  |false=>exact a5 t51 (fn:=f55) (by kernel_rfl) (by kernel_rfl) (a2U v c) (by rw[hv];rfl) (by simp) (fun cc hcc=>aF.cons (c:=cc) (by cases hcc;kernel_rfl) (by cases hcc;exact g) aF.nil)
def cbB (k:Int) (c:List Bool):Bool:=bet k 1 2&&(((c.length:Int)==8)&&bO k (flg c))
def PG:aQ:=fun args h=>
 match args,h with
 |[.c (.int .i64 k),.c (.view _ (.bools c) n 1 _)],[]=>
  some (.c (.bool (cbB k c)),[],[])
 |_,_=>none
theorem a69:aV Tryz.prog 114 PG:=by
 intro args h res h' o hnorm he ho
 unfold PG at he
 split at he
 case h_2=>cases he
 rename_i k nl c n cap
 simp only[Option.some.injEq,Prod.mk.injEq]at he
 obtain⟨rfl,rfl,rfl⟩:=he
 simp only[bG,AV.norm,bI,aJ.norm,Con.size,List.cons.injEq,AV.c.injEq,AV.agg.injEq,aJ.view.injEq,aN,true_and,and_true]at hnorm
 obtain⟨rfl,rfl,rfl⟩:=hnorm
 unfold cbB
 cases h1:bet k 1 2 with
 |false=>exact a5 t50 (by kernel_rfl) (by kernel_rfl) (U8 k c) (by simp[h1]) (by simp) (fun cc _=>aF.nil)
 |true=>
  cases h2:(c.length:Int)==8 with
  |false=>exact a5 t50 (by kernel_rfl) (by kernel_rfl) (U7 k c) (by rw[h1,h2];rfl) (by simp) (fun cc _=>aF.nil)
  |true=>
   have hc:c.length=8:=by simp only[beq_iff_eq]at h2;omega
   obtain⟨p1,p2,p3,p4⟩:=zC h1 hc
   have hl:(rwL k c).length≤8:=bH (step:=rwS k c) (fun i o=>o.length≤i) 8 [] (by simp) fun i o _ h=>by
    unfold rwS
    cases c.getD i false
    ·rw[cond_false];omega
    ·simp;omega
   have e:=U6 k c
   rw[h1,h2]at e
   simp only[cond_true,p4]at e
   exact a5 t50 (by kernel_rfl) (by kernel_rfl) e (by simp only[h1,hc,p1,decide_true,bS];omega) (by simp) (fun cc _=>aF.nil)
noncomputable def T52:List bF:=[⟨115,[],nm GR⟩,⟨60,[],nm PO⟩,⟨57,[],nm C1⟩,⟨53,[],nm wR⟩,⟨114,[],nm PG⟩]++T51
theorem e52:a8 Tryz.prog T52:=by
 refine a8.append ?_ e51
 intro e he
 simp only[List.mem_cons,List.not_mem_nil,or_false]at he
 rcases he with rfl|rfl|rfl|rfl|rfl
 ·exact a68.ok
 ·exact m58.ok
 ·exact m55.ok
 ·exact m51.ok
 ·exact a69.ok
theorem t52:bN Tryz.prog (aB T52):=aP e52
end
section
noncomputable abbrev f133:=Tryz.f161
noncomputable def qZ (m:List (List Int)) (v:List Int) (n:Nat) (rows:List (List Int)) (i:Int):St:=
 bA f133.ntmps [(0,.c (.view none (.ivs .i64 m) m.length 1 none)),(1,.c (.view none (.ints .i64 v) v.length 1 none)),(6,.c (.sl 0 0 n 1 none)),(7,.c (.int .i64 i))] [.live (.ivs .i64 rows)]
noncomputable def EJ (m:List (List Int)) (v:List Int) (n:Nat) (rows:List (List Int)):St:=
 bA f133.ntmps [(0,.c (.view none (.ivs .i64 m) m.length 1 none)),(1,.c (.view none (.ints .i64 v) v.length 1 none)),(6,.c (.sl 0 0 n 1 none))] [.live (.ivs .i64 rows)]
theorem S6 (m:List (List Int)) (v:List Int) (n:Nat) (rows:List (List Int)) (i:Int):aH 0 (aA f133 0) (aD f133 0) (aK tt (aB T52) ([]) 0 100 (a6 0 (a7 f133)) (qZ m v n rows i) [(0,true)])=
  some (.normal,(decide (i<(↑m.length:Int))&&(decide ((↑m.length:Int)≤(↑m.length:Int))&&(decide ((↑m.length:Int)≤274877906944)&&(decide (0≤i)&&(decide (i<(↑(↑m.length:Int).toNat:Int))&&(decide (i.toNat<(List.replicate m.length (0:Int)).length)&&(decide (0≤i)&&(decide (i<(↑m.length:Int))&&(decide (i.toNat<m.length)&&(decide (0+(m.getD i.toNat []).length≤274877906944)&&(decide ((↑m.length:Int).toNat=((List.replicate m.length (0:Int)).set i.toNat 1).length)&&(decide (0+(m.getD i.toNat []).length=([]++m.getD i.toNat []).length)&&(decide (0+(m.getD i.toNat []).length+(↑m.length:Int).toNat≤274877906944)&&(decide (0+(m.getD i.toNat []).length+(↑m.length:Int).toNat=([]++m.getD i.toNat []++(List.replicate m.length (0:Int)).set i.toNat 1).length)&&(decide (n=rows.length)&&((decide (n+1≤274877906944))&&true)))))))))))))))),[],qZ m v (n+1) (rows++[[]++m.getD i.toNat []++(List.replicate m.length (0:Int)).set i.toNat 1]) (IntKind.i64.wrap (i+1))):=by kernel_rfl
theorem S7 (m:List (List Int)) (v:List Int) (n:Nat) (rows:List (List Int)) (i:Int):aH 0 (aA f133 0) (aD f133 0) (aK tt (aB T52) ([]) 0 100 (a6 0 (a7 f133)) (qZ m v n rows i) [(0,false)])=
  some (.exit 0,((!decide (i<(↑m.length:Int)))&&true),[],EJ m v (n) (rows)):=by kernel_rfl
noncomputable def B1 (n r:Nat) (rows:List (List Int)) (rest:List Int) (at':Int):St:=
 bA f133.ntmps [(6,.c (.sl 0 0 n 1 none)),(9,.c (.view none (.ints .i64 rest) r 1 none)),(10,.c (.int .i64 at'))] [.live (.ivs .i64 rows)]
noncomputable def rW (n r:Nat) (rows:List (List Int)) (rest:List Int) (at' i:Int):St:=
 bA f133.ntmps [(6,.c (.sl 0 0 n 1 none)),(9,.c (.view none (.ints .i64 rest) r 1 none)),(10,.c (.int .i64 at')),(11,.c (.int .i64 i))] [.live (.ivs .i64 rows)]
noncomputable def oP (n r:Nat) (rows:List (List Int)) (rest:List Int) (at' i k:Int):St:=
 bA f133.ntmps [(6,.c (.sl 0 0 n 1 none)),(9,.c (.view none (.ints .i64 rest) r 1 none)),(10,.c (.int .i64 at')),(11,.c (.int .i64 i)),(12,.c (.int .i64 k))] [.live (.ivs .i64 rows)]
noncomputable def yW (n r:Nat) (rows:List (List Int)) (rest:List Int) (at' i:Int):St:=rW n r rows rest at' i
noncomputable def sH (n r:Nat) (rows:List (List Int)) (rest:List Int) (at':Int):St:=B1 n r rows rest at'
noncomputable def sG (r:Nat) (rest:List Int):St:=
 bA f133.ntmps [(9,.c (.view none (.ints .i64 rest) r 1 none))] []
theorem R6 (n r:Nat) (rows:List (List Int)) (rest:List Int) (at' i k:Int):aH 0 (aA f133 6) (aD f133 6) (aK tt (aB T52) ([]) 0 100 (a6 6 (a7 f133)) (oP n r rows rest at' i k) [(0,true),(0,true),(0,true)])=
  some (.normal,(decide (k<(↑n:Int))&&((k !=i)&&((k !=i)&&((k !=i)&&(decide (0≤k)&&(decide (k<(↑n:Int))&&((k !=i)&&(decide (k.toNat<rows.length)&&((k !=i)&&((k !=i)&&(decide (0≤at')&&(decide (at'<(↑(rows.getD k.toNat []).length:Int))&&((k !=i)&&(decide (at'.toNat<(rows.getD k.toNat []).length)&&((k !=i)&&((bif k !=i then(rows.getD k.toNat []).getD at'.toNat 0 !=0 else false)&&(decide (0≤k)&&(decide (k<(↑n:Int))&&(decide (k.toNat<rows.length)&&(decide (0≤i)&&(decide (i<(↑n:Int))&&(decide (i.toNat<rows.length)&&(decide ((rows.getD k.toNat []).length≤274877906944)&&(decide ((rows.getD k.toNat []).length=(rows.getD i.toNat []).length)&&(a9 (rows.getD k.toNat [])&&(a9 (rows.getD i.toNat [])&&(decide (0≤bD (rows.getD i.toNat []))&&(decide (0≤k)&&(decide (k<(↑n:Int))&&((decide (k.toNat<rows.length))&&true)))))))))))))))))))))))))))))),[],oP (n) (r) (rows.set k.toNat (nlL (rows.getD k.toNat []) (rows.getD i.toNat []))) (rest) at' i (IntKind.i64.wrap (k+1))):=by kernel_rfl
theorem R7 (n r:Nat) (rows:List (List Int)) (rest:List Int) (at' i k:Int):aH 0 (aA f133 6) (aD f133 6) (aK tt (aB T52) ([]) 0 100 (a6 6 (a7 f133)) (oP n r rows rest at' i k) [(0,true),(0,true),(0,false)])=
  some (.normal,(decide (k<(↑n:Int))&&((k !=i)&&((k !=i)&&((k !=i)&&(decide (0≤k)&&(decide (k<(↑n:Int))&&((k !=i)&&(decide (k.toNat<rows.length)&&((k !=i)&&((k !=i)&&(decide (0≤at')&&(decide (at'<(↑(rows.getD k.toNat []).length:Int))&&((k !=i)&&(decide (at'.toNat<(rows.getD k.toNat []).length)&&((k !=i)&&((!bif k !=i then(rows.getD k.toNat []).getD at'.toNat 0 !=0 else false)&&true)))))))))))))))),[],oP (n) (r) (rows) (rest) at' i (IntKind.i64.wrap (k+1))):=by kernel_rfl
theorem R8 (n r:Nat) (rows:List (List Int)) (rest:List Int) (at' i k:Int):aH 0 (aA f133 6) (aD f133 6) (aK tt (aB T52) ([]) 0 100 (a6 6 (a7 f133)) (oP n r rows rest at' i k) [(0,true),(0,false)])=
  some (.normal,(decide (k<(↑n:Int))&&((!k !=i)&&((!k !=i)&&((!k !=i)&&((!k !=i)&&((!k !=i)&&((!k !=i)&&((!k !=i)&&((!k !=i)&&((!k !=i)&&true)))))))))),[],oP (n) (r) (rows) (rest) at' i (IntKind.i64.wrap (k+1))):=by kernel_rfl
theorem R9 (n r:Nat) (rows:List (List Int)) (rest:List Int) (at' i k:Int):aH 0 (aA f133 6) (aD f133 6) (aK tt (aB T52) ([]) 0 100 (a6 6 (a7 f133)) (oP n r rows rest at' i k) [(0,false)])=
  some (.exit 6,((!decide (k<(↑n:Int)))&&true),[],yW (n) (r) (rows) (rest) at' i):=by kernel_rfl
def byS (at' i:Nat) (k:Nat) (rows:List (List Int)):List (List Int):=
 bif ((k:Int)!=(i:Int))&&((rows.getD k []).getD at' 0 !=0)then rows.set k (nlL (rows.getD k []) (rows.getD i []))else rows
def byK (at' i:Nat) (rows:List (List Int)):List (List Int):=bP (byS at' i) rows.length 0 rows
def bZ (L:Nat) (rows:List (List Int)):Bool:=rows.all fun r=>decide (r.length=L)&&a9 r
theorem QY (n r:Nat) (rows rows1:List (List Int)) (rest:List Int) (at' i:Int):aH 0 (aA f133 4) (aD f133 4) (aK tt (aB T52) ([(6,⟨aA f133 6,oP n r rows rest at' i 0,.normal,yW n r rows1 rest at' i⟩)]) 0 100 (a6 4 (a7 f133)) (rW n r rows rest at' i) [(0,true),(0,true)])=
  some (.exit 4,(decide (i<(↑n:Int))&&(decide (0≤i)&&(decide (i<(↑n:Int))&&(decide (i.toNat<rows.length)&&(decide ((rows.getD i.toNat []).length≤274877906944)&&((bD (rows.getD i.toNat [])==at')&&(decide (0≤i)&&(decide (i<(↑n:Int))&&(decide (i.toNat<rows1.length)&&(decide (rest.length≤274877906944)&&(decide (rest.length=(rows1.getD i.toNat []).length)&&(a9 rest&&(a9 (rows1.getD i.toNat [])&&((decide (0≤bD (rows1.getD i.toNat [])))&&true)))))))))))))),[oP n r rows rest at' i 0=oP n r rows rest at' i 0],sH (n) (rest.length) (rows1) (nlL rest (rows1.getD i.toNat [])) at'):=by kernel_rfl
theorem LZ (n r:Nat) (rows:List (List Int)) (rest:List Int) (at' i:Int):aH 0 (aA f133 4) (aD f133 4) (aK tt (aB T52) ([]) 0 100 (a6 4 (a7 f133)) (rW n r rows rest at' i) [(0,true),(0,false)])=
  some (.normal,(decide (i<(↑n:Int))&&(decide (0≤i)&&(decide (i<(↑n:Int))&&(decide (i.toNat<rows.length)&&(decide ((rows.getD i.toNat []).length≤274877906944)&&((!bD (rows.getD i.toNat [])==at')&&true)))))),[],rW (n) (r) (rows) (rest) at' (IntKind.i64.wrap (i+1))):=by kernel_rfl
theorem M0 (n r:Nat) (rows:List (List Int)) (rest:List Int) (at' i:Int):aH 0 (aA f133 4) (aD f133 4) (aK tt (aB T52) ([]) 0 100 (a6 4 (a7 f133)) (rW n r rows rest at' i) [(0,false)])=
  some (.exit 4,((!decide (i<(↑n:Int)))&&true),[],sH (n) (r) (rows) (rest) at'):=by kernel_rfl
theorem Q5 (n r:Nat) (rows rows1:List (List Int)) (rest rest1:List Int) (at':Int):aH 0 (aA f133 2) (aD f133 2) (aK tt (aB T52) ([(4,⟨aA f133 4,rW n r rows rest at' 0,.normal,sH n r rows1 rest1 at'⟩)]) 0 100 (a6 2 (a7 f133)) (B1 n r rows rest at') [(0,true)])=
  some (.normal,((decide (at'<4))&&true),[rW n r rows rest at' 0=rW n r rows rest at' 0],B1 (n) (r) (rows1) (rest1) (IntKind.i64.wrap (at'+1))):=by kernel_rfl
theorem Q6 (n r:Nat) (rows rows1:List (List Int)) (rest rest1:List Int) (at':Int) (lcv:List (Nat×LC)):aH 0 (aA f133 2) (aD f133 2) (aK tt (aB T52) (lcv) 0 100 (a6 2 (a7 f133)) (B1 n r rows rest at') [(0,false)])=
  some (.exit 2,((!decide (at'<4))&&true),[],sG (r) (rest)):=by kernel_rfl
end
section
theorem gC {L:Nat} {rows:List (List Int)} (h:bZ L rows=true) {i:Nat} (hi:i<rows.length):(rows.getD i []).length=L∧a9 (rows.getD i [])=true:=by
 rw[List.getD_eq_getElem?_getD,List.getElem?_eq_getElem hi]
 have:=List.all_eq_true.1 h _ (List.getElem_mem hi)
 simpa only[Bool.and_eq_true,decide_eq_true_eq,Option.getD_some]using this
theorem D1 {L:Nat} {rows:List (List Int)} (h:bZ L rows=true) {i:Nat} {v:List Int} (h1:v.length=L) (h2:a9 v=true):bZ L (rows.set i v)=true:=by
 unfold bZ at h⊢
 rw[List.all_eq_true]at h⊢
 intro y hy
 rcases List.mem_or_eq_of_mem_set hy with h'|h'
 ·exact h y h'
 ·subst h';simp[h1,h2]
theorem mP {L:Nat} {rows:List (List Int)} (h:bZ L rows=true) {v:List Int} (h1:v.length=L) (h2:a9 v=true):bZ L (rows++[v])=true:=by
 unfold bZ at h⊢
 simp[List.all_append,h,h1,h2]
def AT (n i:Nat):List Int:=(List.replicate n (0:Int)).set i 1
theorem FW (n i:Nat):(AT n i).length=n:=by simp[AT]
theorem mE (n:Nat):a9 (List.replicate n (0:Int))=true:=by
 simp only[a9,List.all_eq_true]
 intro x hx
 rw[(List.mem_replicate.1 hx).2];rfl
theorem FV (n i:Nat):a9 (AT n i)=true:=cZ (mE n) rfl
def bwS (m:List (List Int)) (i:Nat) (o:List (List Int)):List (List Int):=o++[m.getD i []++AT m.length i]
def bwL (m:List (List Int)):List (List Int):=bP (bwS m) m.length 0 []
theorem xO {m:List (List Int)} (hm:bZ 4 m=true):(bwL m).length=m.length∧bZ (4+m.length) (bwL m)=true:=
 bH (step:=bwS m) (fun i o=>o.length=i∧bZ (4+m.length) o=true) m.length [] ⟨rfl,rfl⟩ fun i o hi h=>by
  obtain⟨g1,g2⟩:=gC hm hi
  exact⟨by simp[bwS,h.1],mP h.2 (by rw[List.length_append,g1,FW]) (eI g2 (FV _ _))⟩
theorem a5N (m:List (List Int)) (v:List Int) (hn:m.length≤1000) (hm:bZ 4 m=true):
  aW Tryz.prog 0 (.block 0 (.loop (a6 0 (a7 f133)))) (qZ m v 0 [] 0) fun e t=>e=.normal∧t=EJ m v m.length (bwL m):=by
 have key:=aW.count hT t52 bM (m:=0) (id:=0) (body:=a6 0 (a7 f133)) m.length (fun i o=>o.length=i) (fun i o=>qZ m v o.length o i) (fun o=>EJ m v o.length o) (bwS m) (aA f133 0) (aD f133 0)
  (fun _ _=>[]) (fun _ _ _ _=>aF.nil) (fun i o hi h=>⟨by simp[bwS,h], ?_⟩) (fun o h=>⟨_,_,⟨_,_,S7 m v o.length o m.length,by simp,by simp⟩⟩) [] rfl
 ·have hb:=(xO hm).1
  unfold bwL at hb
  rw[hb]at key;exact key
 ·obtain⟨g1,g2⟩:=gC hm hi
  have e:=S6 m v o.length o i
  rw[aE (by omega) (by omega),Int.toNat_natCast]at e
  unfold bwS
  rw[List.length_append,AT]
  refine⟨_,_,⟨_,_,e, ?_,by simp⟩⟩
  simp only[List.nil_append,List.length_append,List.length_set,List.length_replicate,Int.toNat_natCast,g1,bS]
  omega
theorem DP {L n at' i k:Nat} {rows:List (List Int)} (h:rows.length=n∧bZ L rows=true) (hk:k<n):(byS at' i k rows).length=n∧bZ L (byS at' i k rows)=true:=by
 unfold byS
 cases ((k:Int)!=(i:Int))&&((rows.getD k []).getD at' 0 !=0)
 ·exact h
 ·rw[cond_true]
  obtain⟨g1,g2⟩:=gC h.2 (i:=k) (by omega)
  exact⟨by rw[List.length_set];exact h.1,D1 h.2 (by rw[lA];exact g1) (rP _ _)⟩
theorem HP {at' i k:Nat} {rows:List (List Int)}:(byS at' i k rows).getD i []=rows.getD i []:=by
 unfold byS
 cases h:((k:Int)!=(i:Int))&&((rows.getD k []).getD at' 0 !=0)
 ·rfl
 ·rw[Bool.and_eq_true]at h
  have hne:k≠i:=by
   intro e;subst e;simp at h
  rw[cond_true,List.getD_eq_getElem?_getD,List.getElem?_set_ne hne,←List.getD_eq_getElem?_getD]
theorem DO {L at' i:Nat} {rows:List (List Int)} (h:bZ L rows=true):(byK at' i rows).length=rows.length∧bZ L (byK at' i rows)=true∧(byK at' i rows).getD i []=rows.getD i []:=by
 have:=bH (step:=byS at' i) (fun _ o=>(o.length=rows.length∧bZ L o=true)∧o.getD i []=rows.getD i []) rows.length rows ⟨⟨rfl,h⟩,rfl⟩ fun k o hk h=>⟨DP h.1 hk,by rw[HP];exact h.2⟩
 exact⟨this.1.1,this.1.2,this.2⟩
theorem XO (n r:Nat) (rows:List (List Int)) (rest:List Int) (at' i L:Nat) (hL:L≤2000) (ha:at'<L) (hn:n≤1000) (hr:rows.length=n) (ho:bZ L rows=true) (hi:i<n) (h0:bD (rows.getD i [])=(at':Int)):
  aW Tryz.prog 0 (.block 6 (.loop (a6 6 (a7 f133)))) (oP n r rows rest at' i 0) fun e t=>e=.normal∧t=yW n r (byK at' i rows) rest at' i:=by
 have key:=aW.count hT t52 bM (m:=0) (id:=6) (body:=a6 6 (a7 f133)) n (fun _ o=>(o.length=n∧bZ L o=true)∧o.getD i []=rows.getD i []) (fun k o=>oP n r o rest at' i k) (fun o=>yW n r o rest at' i) (byS at' i) (aA f133 6) (aD f133 6)
  (fun _ _=>[]) (fun _ _ _ _=>aF.nil) (fun k o hk h=>⟨⟨DP h.1 hk,by rw[HP];exact h.2⟩, ?_⟩) (fun o h=>⟨_,_,⟨_,_,R9 n r o rest at' i n,by simp,by simp⟩⟩) rows ⟨⟨hr,ho⟩,rfl⟩
 ·unfold byK;rw[hr];exact key
 ·obtain⟨⟨h1,h2⟩,h3⟩:=h
  obtain⟨g1,g2⟩:=gC h2 (i:=k) (by omega)
  obtain⟨g3,g4⟩:=gC h2 (i:=i) (by omega)
  have g5:0≤bD (o.getD i []):=by rw[h3,h0];omega
  unfold byS
  cases c1:((k:Int)!=(i:Int))with
  |false=>
   have e:=R8 n r o rest at' i k
   rw[aE (by omega) (by omega)]at e
   refine⟨_,_,⟨_,_,e, ?_,by simp⟩⟩
   simp only[c1,bS]
   omega
  |true=>
   cases c2:((o.getD k []).getD at' 0 !=0)with
   |false=>
    have e:=R7 n r o rest at' i k
    rw[aE (by omega) (by omega),Int.toNat_natCast,Int.toNat_natCast]at e
    refine⟨_,_,⟨_,_,e, ?_,by simp⟩⟩
    simp only[c1,c2,g1,bS]
    omega
   |true=>
    have e:=R6 n r o rest at' i k
    rw[aE (by omega) (by omega),Int.toNat_natCast,Int.toNat_natCast,Int.toNat_natCast]at e
    refine⟨_,_,⟨_,_,e, ?_,by simp⟩⟩
    simp only[c1,c2,g1,g2,g3,g4,g5,bS]
    omega
def byF (rows:List (List Int)) (at':Nat) (i:Nat) (_:Unit):Unit⊕Nat:=bif bD (rows.getD i [])==(at':Int)then .inr i else .inl ()
def byT (at':Nat) (s:List (List Int)×List Int):List (List Int)×List Int:=match dO (byF s.1 at') s.1.length 0 ()with
 |.inl _=>s
 |.inr i=>(byK at' i s.1,nlL s.2 ((byK at' i s.1).getD i []))
theorem rL {L n at':Nat} {s:List (List Int)×List Int} (h:(s.1.length=n∧bZ L s.1=true)∧s.2.length=L∧a9 s.2=true):((byT at' s).1.length=n∧bZ L (byT at' s).1=true)∧(byT at' s).2.length=L∧a9 (byT at' s).2=true:=by
 unfold byT
 split
 ·exact h
 ·obtain⟨q1,q2,q3⟩:=DO (at':=at') (i:= ‹Nat›) h.1.2
  exact⟨⟨by rw[q1];exact h.1.1,q2⟩,by rw[lA];exact h.2.1,rP _ _⟩
theorem LH:a6 6 (a6 4 (a7 f133))=a6 6 (a7 f133):=by kernel_rfl
theorem LG:a6 4 (a6 2 (a7 f133))=a6 4 (a7 f133):=by kernel_rfl
theorem XJ (n r:Nat) (rows:List (List Int)) (rest:List Int) (at' L:Nat) (hL:L≤2000) (ha:at'<L) (hn:n≤1000) (hr:rows.length=n) (ho:bZ L rows=true) (hrr:r=rest.length) (h1:rest.length=L) (h2:a9 rest=true):
  aW Tryz.prog 0 (.block 4 (.loop (a6 4 (a7 f133)))) (rW n r rows rest at' 0) fun e t=>e=.normal∧t=sH n (byT at' (rows,rest)).2.length (byT at' (rows,rest)).1 (byT at' (rows,rest)).2 at':=by
 subst hrr
 have key:=aW.countE hT t52 bM (m:=0) (id:=4) (body:=a6 4 (a7 f133)) (β:=Unit) (γ:=Nat) n (fun _ _=>True) (fun i _=>rW n rest.length rows rest at' i) (fun _=>sH n rest.length rows rest at')
  (fun i=>sH n rest.length (byK at' i rows) (nlL rest ((byK at' i rows).getD i [])) at') .normal (.inl rfl) (byF rows at') (aA f133 4) (aD f133 4)
  (fun i _=>bif bD (rows.getD i [])==(at':Int)then [(6,⟨aA f133 6,oP n rest.length rows rest at' i 0,.normal,yW n rest.length (byK at' i rows) rest at' i⟩)]else [])
  (fun i _ hi _=> ?_) (fun i _ hi _=> ?_) (fun _ _=>⟨_,_,⟨_,_,M0 n rest.length rows rest at' n,by simp,by simp⟩⟩) () trivial
 ·refine aW.mono key fun e t h=> ?_
  unfold byT
  dsimp only
  rw[hr]
  revert h
  cases dO (byF rows at') n 0 ()with
  |inl x=>exact fun h=>h
  |inr i=>exact fun h=>by dsimp only at h⊢;rw[lA];exact h
 ·cases c1:bD (rows.getD i [])==(at':Int)with
  |false=>exact aF.nil
  |true=>exact aF.cons (by kernel_rfl) (by rw[LH];exact XO n rest.length rows rest at' i L hL ha hn hr ho hi (by simpa using c1)) aF.nil
 ·obtain⟨g1,g2⟩:=gC ho (i:=i) (by omega)
  cases c1:bD (rows.getD i [])==(at':Int)with
  |true=>
   obtain⟨q1,q2,q3⟩:=DO (at':=at') (i:=i) ho
   refine .inr ⟨i,by unfold byF;rw[c1];rfl, ?_⟩
   rw[cond_true,if_pos rfl]
   have e:=QY n rest.length rows (byK at' i rows) rest at' i
   rw[Int.toNat_natCast,q3]at e
   rw[q3]
   refine⟨_,_,⟨_,_,e, ?_,by simp⟩⟩
   have c2:bD (rows.getD i [])=(at':Int):=by simpa using c1
   simp only[g1,g2,h1,h2,q1,c2,beq_self_eq_true,bS]
   omega
  |false=>
   refine .inl ⟨(),by unfold byF;rw[c1];rfl,trivial, ?_⟩
   rw[cond_false]
   have e:=LZ n rest.length rows rest at' i
   rw[aE (by omega) (by omega),Int.toNat_natCast]at e
   refine⟨_,_,⟨_,_,e, ?_,by simp⟩⟩
   simp only[c1,g1,bS]
   omega
def byE (m:List (List Int)) (v:List Int):List (List Int)×List Int:=bP byT 4 0 (bwL m,v++List.replicate m.length 0)
theorem DN {m:List (List Int)} {v:List Int} (hm:bZ 4 m=true) (h1:v.length=4) (h2:a9 v=true):((byE m v).1.length=m.length∧bZ (4+m.length) (byE m v).1=true)∧(byE m v).2.length=4+m.length∧a9 (byE m v).2=true:=
 bH (step:=byT) (fun _ s=>(s.1.length=m.length∧bZ (4+m.length) s.1=true)∧s.2.length=4+m.length∧a9 s.2=true) 4 (bwL m,v++List.replicate m.length 0)
  ⟨xO hm,by simp[h1],eI h2 (mE _)⟩ fun i s _ h=>rL h
theorem XH (m:List (List Int)) (v:List Int) (hn:m.length≤1000) (hm:bZ 4 m=true) (h1:v.length=4) (h2:a9 v=true):
  aW Tryz.prog 0 (.block 2 (.loop (a6 2 (a7 f133)))) (B1 m.length (v++List.replicate m.length 0).length (bwL m) (v++List.replicate m.length 0) 0) fun e t=>e=.normal∧t=sG (byE m v).2.length (byE m v).2:=by
 have i0:((bwL m).length=m.length∧bZ (4+m.length) (bwL m)=true)∧(v++List.replicate m.length 0).length=4+m.length∧a9 (v++List.replicate m.length 0)=true:=⟨xO hm,by simp[h1],eI h2 (mE _)⟩
 refine aW.count hT t52 bM (m:=0) (id:=2) (body:=a6 2 (a7 f133)) 4 (fun _ s=>(s.1.length=m.length∧bZ (4+m.length) s.1=true)∧s.2.length=4+m.length∧a9 s.2=true) (fun i s=>B1 m.length s.2.length s.1 s.2 i) (fun s=>sG s.2.length s.2) byT (aA f133 2) (aD f133 2)
  (fun i s=>[(4,⟨aA f133 4,rW m.length s.2.length s.1 s.2 i 0,.normal,sH m.length s.2.length (byT i s).1 (byT i s).2 i⟩)])
  (fun i s hi h=>aF.cons (by kernel_rfl) (by rw[LG];have:=XJ m.length s.2.length s.1 s.2 i (4+m.length) (by omega) (by omega) hn h.1.1 h.1.2 rfl h.2.1 h.2.2;rw[(rL (at':=i) h).2.1,←h.2.1]at this;exact this) aF.nil)
  (fun i s hi h=>⟨rL h, ?_⟩) (fun s h=>⟨_,_,⟨_,_,Q6 m.length s.2.length s.1 s.1 s.2 s.2 (4:Nat) [],by simp,by simp⟩⟩) (bwL m,v++List.replicate m.length 0) i0
 have e:=Q5 m.length s.2.length s.1 (byT i s).1 s.2 (byT i s).2 i
 rw[aE (by omega) (by omega)]at e
 rw[(rL (at':=i) h).2.1,←h.2.1]
 refine⟨_,_,⟨_,_,e, ?_,by simp⟩⟩
 simp only[bS]
 omega
noncomputable def sC (n r:Nat) (rows:List (List Int)) (rest:List Int):St:=
 bA f133.ntmps [(6,.c (.sl 0 0 n 1 none)),(9,.c (.sl 1 0 r 1 none)),(10,.c (.int .i64 0))] [.live (.ivs .i64 rows),.live (.ints .i64 rest)]
theorem XL (m:List (List Int)) (v:List Int) (hn:m.length≤1000) (hm:bZ 4 m=true) (h1:v.length=4) (h2:a9 v=true):
  aW Tryz.prog 0 (.block 2 (.loop (a6 2 (a7 f133)))) (sC m.length (0+v.length+m.length) (bwL m) (v++List.replicate m.length 0)) fun e t=>e=.normal∧t=sG (byE m v).2.length (byE m v).2:=by
 have hl:0+v.length+m.length=(v++List.replicate m.length (0:Int)).length:=by simp
 rw[hl]
 have g:=XH m v hn hm h1 h2
 revert g
 generalize (v++List.replicate m.length (0:Int))=rest
 intro g
 have e:fit 0 (aA f133 2) ⟨(sC m.length rest.length (bwL m) rest).tmps.set 9 (.c (.view none (.ints .i64 rest) rest.length 1 none)),(sC m.length rest.length (bwL m) rest).heap.set 1 .dead⟩=B1 m.length rest.length (bwL m) rest 0:=by kernel_rfl
 have w:=(cX.froz 0 9 1 (s:=sC m.length rest.length (bwL m) rest) (len:=rest.length) (es:=1) (cap:=none) (c:=.ints .i64 rest) rfl rfl rfl (Nat.mul_one _)).trans (cX.fit 0 (aA f133 2) _)
 rw[e]at w
 exact g.pre w
def byB (m:List (List Int)) (v:List Int):Bool:= !bet (bD (byE m v).2) 0 3
def byD (m:List (List Int)) (v:List Int):List Int:=bif bet (bD (byE m v).2) 0 3 then []else eE ((byE m v).2.drop 4) 30
noncomputable def KQ:List bF:=[⟨194,[],rJ⟩]++T52
theorem a5E:a8 Tryz.prog KQ:=by
 refine a8.append ?_ e52
 intro e he
 simp only[List.mem_cons,List.not_mem_nil,or_false]at he
 subst he;exact RF t5
theorem a13:bN Tryz.prog (aB KQ):=aP a5E
theorem UO (m rows:List (List Int)) (v rest:List Int):aG tt (aB KQ) ([(0,⟨aA f133 0,qZ m v 0 [] 0,.normal,EJ m v m.length rows⟩),(2,⟨aA f133 2,sC m.length (0+v.length+m.length) rows (v++List.replicate m.length (0:Int)),.normal,sG rest.length rest⟩)]) 100 f133 [.c (.view none (.ivs .i64 m) m.length 1 none),.c (.view none (.ints .i64 v) v.length 1 none)] [] [(0,true)]=
  some ⟨.tup [.c (.sl 0 0 0 1 none),.c (.bool false)],[.live (.ints .i64 [])],(decide (0+v.length≤274877906944)&&(decide (0+v.length=([]++v).length)&&(decide ((↑(0+v.length):Int)+(↑m.length:Int)≤274877906944)&&(decide (rest.length≤274877906944)&&((bet (bD rest) 0 3)&&true))))),[qZ m v 0 [] 0=qZ m v 0 [] 0,sC m.length (0+v.length+m.length) rows (v++List.replicate m.length (0:Int))=sC m.length (0+v.length+m.length) rows (v++List.replicate m.length (0:Int))]⟩:=by kernel_rfl
theorem UP (m rows:List (List Int)) (v rest:List Int):aG tt (aB KQ) ([(0,⟨aA f133 0,qZ m v 0 [] 0,.normal,EJ m v m.length rows⟩),(2,⟨aA f133 2,sC m.length (0+v.length+m.length) rows (v++List.replicate m.length (0:Int)),.normal,sG rest.length rest⟩)]) 100 f133 [.c (.view none (.ivs .i64 m) m.length 1 none),.c (.view none (.ints .i64 v) v.length 1 none)] [] [(0,false)]=
  some ⟨.tup [.c (.sl 0 0 (List.drop 4 rest).length 1 none),.c (.bool true)],[.live (.ints .i64 (eE (List.drop 4 rest) 30))],(decide (0+v.length≤274877906944)&&(decide (0+v.length=([]++v).length)&&(decide ((↑(0+v.length):Int)+(↑m.length:Int)≤274877906944)&&(decide (rest.length≤274877906944)&&(!bet (bD rest) 0 3&&(decide (4≤(↑rest.length:Int))&&(decide ((List.drop 4 rest).length≤274877906944)&&((a9 (List.drop 4 rest))&&true)))))))),[qZ m v 0 [] 0=qZ m v 0 [] 0,sC m.length (0+v.length+m.length) rows (v++List.replicate m.length (0:Int))=sC m.length (0+v.length+m.length) rows (v++List.replicate m.length (0:Int))]⟩:=by kernel_rfl
def PF:aQ:=fun args h=>
 match args,h with
 |[.c (.view _ (.ivs .i64 m) n 1 _),.c (.view _ (.ints .i64 v) n2 1 _)],[]=>
  some (.tup [.c (.sl 0 0 (byD m v).length 1 none),.c (.bool (byB m v))],[.live (.ints .i64 (byD m v))],[decide (m.length≤1000),bZ 4 m,decide (v.length=4),a9 v])
 |_,_=>none
theorem yX {v:List Int} (h:a9 v=true) (n:Nat):a9 (v.drop n)=true:=by
 simp only[a9,List.all_eq_true]at h⊢
 exact fun x hx=>h x (List.mem_of_mem_drop hx)
theorem a6S:aV Tryz.prog 161 PF:=by
 intro args h res h' o hnorm he ho
 unfold PF at he
 split at he
 case h_2=>cases he
 rename_i nl m n cap nl2 v n2 cap2
 simp only[Option.some.injEq,Prod.mk.injEq]at he
 obtain⟨rfl,rfl,rfl⟩:=he
 simp only[List.mem_cons,List.not_mem_nil,or_false,forall_eq_or_imp,forall_eq,decide_eq_true_eq]at ho
 obtain⟨o1,o2,o3,o4⟩:=ho
 simp only[bG,AV.norm,bI,aJ.norm,Con.size,List.cons.injEq,AV.c.injEq,AV.agg.injEq,aJ.view.injEq,aN,true_and,and_true]at hnorm
 obtain⟨⟨rfl,rfl,rfl⟩,rfl,rfl,rfl⟩:=hnorm
 obtain⟨-,q1,q2⟩:=DN o2 o3 o4
 have lo: ∀cc,(a7 f133)=cc→aF Tryz.prog 0 [(0,⟨aA f133 0,qZ m v 0 [] 0,.normal,EJ m v m.length (bwL m)⟩),(2,⟨aA f133 2,sC m.length (0+v.length+m.length) (bwL m) (v++List.replicate m.length (0:Int)),.normal,sG (byE m v).2.length (byE m v).2⟩)] cc:=fun cc h=>by
  subst h
  exact aF.cons (by kernel_rfl) (a5N m v o1 o2) (aF.cons (by kernel_rfl) (XL m v o1 o2 o3 o4) aF.nil)
 unfold byB byD
 cases hb:bet (bD (byE m v).2) 0 3 with
 |true=>
  exact a5 (f:=161) a13 (fn:=f133) (by kernel_rfl) (by kernel_rfl) (UO m (bwL m) v (byE m v).2) (by
   simp only[hb,q1,o3,List.nil_append,bS];omega) (by simp) (fun cc hcc=>lo cc (by cases hcc;rfl))
 |false=>
  rw[cond_false,gD]
  exact a5 (f:=161) a13 (fn:=f133) (by kernel_rfl) (by kernel_rfl) (UP m (bwL m) v (byE m v).2) (by
   simp only[hb,q1,o3,yX q2,List.nil_append,List.length_drop,bS];omega) (by simp) (fun cc hcc=>lo cc (by cases hcc;rfl))
noncomputable def T53:List bF:=[⟨161,[],nm PF⟩]++T52
theorem e53:a8 Tryz.prog T53:=by
 refine a8.append ?_ e52
 intro e he
 simp only[List.mem_cons,List.not_mem_nil,or_false]at he
 subst he;exact a6S.ok
theorem t53:bN Tryz.prog (aB T53):=aP e53
end
section
noncomputable abbrev f157:=Tryz.f190
theorem V1 (i:Int):aG tt (aB T53) ([]) 100 f157 [.c (.int .i64 i)] [] [(0,false)]=
  some ⟨.tup [.c (.sl 0 0 4 1 none),.c (.bool true)],[.live (.ints .i64 ([0,0,0,0].set i.toNat 1))],(!!bet i 0 3&&(decide (0≤i)&&(decide (i<4)&&((decide (i.toNat<4))&&true)))),[]⟩:=by kernel_rfl
def unL (i:Int):List Int:=[0,0,0,0].set i.toNat 1
def PY:aQ:=fun args h=>
 match args,h with
 |[.c (.int .i64 i)],[]=>
  some (.tup [.c (.view none (.ints .i64 (unL i)) 4 1 none),.c (.bool true)],[],[bet i 0 3])
 |_,_=>none
theorem a7C:aV Tryz.prog 190 PY:=by
 intro args h res h' o hnorm he ho
 unfold PY at he
 split at he
 case h_2=>cases he
 rename_i i
 simp only[Option.some.injEq,Prod.mk.injEq]at he
 obtain⟨rfl,rfl,rfl⟩:=he
 simp only[List.mem_cons,List.not_mem_nil,or_false,forall_eq_or_imp,forall_eq,decide_eq_true_eq]at ho
 have o1:=ho
 have h:=b8.1 o1
 exact(a5 (f:=190) t53 (fn:=f157) (by kernel_rfl) (by kernel_rfl) (V1 i) (by simp only[o1,bS];omega) (by simp) (fun cc _=>aF.nil)).views (o:=[decide (4=(unL i).length)]) rfl (by simp[unL])
noncomputable def T54:List bF:=[⟨190,[],nm PY⟩]++T53
theorem e54:a8 Tryz.prog T54:=by
 refine a8.append ?_ e53
 intro e he
 simp only[List.mem_cons,List.not_mem_nil,or_false]at he
 subst he;exact a7C.ok
theorem t54:bN Tryz.prog (aB T54):=aP e54
noncomputable abbrev f158:=Tryz.f191
noncomputable def uL (m:List (List Int)) (n:Nat) (out:List Int) (i:Int):St:=
 bA f158.ntmps [(0,.c (.view none (.ivs .i64 m) m.length 1 none)),(3,.c (.sl 0 0 n 1 none)),(4,.c (.int .i64 i))] [.live (.ints .i64 out)]
noncomputable def L5 (n:Nat) (out:List Int):St:=bA f158.ntmps [(3,.c (.sl 0 0 n 1 none))] [.live (.ints .i64 out)]
theorem SV (m:List (List Int)) (n:Nat) (out:List Int) (i:Int):aH 0 (aA f158 0) (aD f158 0) (aK tt (aB T54) ([]) 0 100 (a6 0 (a7 f158)) (uL m n out i) [(0,true),(0,true)])=
  some (.normal,(decide (i<(↑m.length:Int))&&(decide (0≤i)&&(decide (i≤(↑m.length:Int))&&(decide (0≤i)&&(decide (i<(↑m.length:Int))&&(decide (i.toNat<m.length)&&(decide ((List.take i.toNat m).length≤274877906944)&&(eS (List.take i.toNat m)&&(decide ((m.getD i.toNat []).length≤274877906944)&&(decide ((cM (List.take i.toNat m)).length≤1000)&&(j9 (m.getD i.toNat []).length (cM (List.take i.toNat m))&&(a9 (m.getD i.toNat [])&&(!iU (List.take i.toNat m) (m.getD i.toNat [])&&(decide (n=out.length)&&((decide (n+1≤274877906944))&&true))))))))))))))),[],uL m (n+1) (out++[i]) (IntKind.i64.wrap (i+1))):=by kernel_rfl
theorem SW (m:List (List Int)) (n:Nat) (out:List Int) (i:Int):aH 0 (aA f158 0) (aD f158 0) (aK tt (aB T54) ([]) 0 100 (a6 0 (a7 f158)) (uL m n out i) [(0,true),(0,false)])=
  some (.normal,(decide (i<(↑m.length:Int))&&(decide (0≤i)&&(decide (i≤(↑m.length:Int))&&(decide (0≤i)&&(decide (i<(↑m.length:Int))&&(decide (i.toNat<m.length)&&(decide ((List.take i.toNat m).length≤274877906944)&&(eS (List.take i.toNat m)&&(decide ((m.getD i.toNat []).length≤274877906944)&&(decide ((cM (List.take i.toNat m)).length≤1000)&&(j9 (m.getD i.toNat []).length (cM (List.take i.toNat m))&&(a9 (m.getD i.toNat [])&&((!!iU (List.take i.toNat m) (m.getD i.toNat []))&&true))))))))))))),[],uL m (n) (out) (IntKind.i64.wrap (i+1))):=by kernel_rfl
theorem SX (m:List (List Int)) (n:Nat) (out:List Int) (i:Int):aH 0 (aA f158 0) (aD f158 0) (aK tt (aB T54) ([]) 0 100 (a6 0 (a7 f158)) (uL m n out i) [(0,false)])=
  some (.exit 0,((!decide (i<(↑m.length:Int)))&&true),[],L5 (n) (out)):=by kernel_rfl
noncomputable abbrev f104:=Tryz.f118
noncomputable def lK (k:Int) (w:List Int) (c:List Bool) (n:Nat) (rows:List (List Int)) (g:Nat) (got:List Int) (i:Int):St:=
 bA f104.ntmps [(0,.c (.int .i64 k)),(1,.c (.view none (.ints .i64 w) w.length 1 none)),(2,.c (.view none (.bools c) c.length 1 none)),(7,.c (.sl 0 0 n 1 none)),(8,.c (.sl 1 0 g 1 none)),(9,.c (.int .i64 i))]
  [.live (.ivs .i64 rows),.live (.ints .i64 got)]
noncomputable def KR:St:=bA f104.ntmps [] []
noncomputable def LB:St:=bA f104.ntmps [(6,.c (.bool false))] []
noncomputable def r8 (k:Int) (w:List Int) (c:List Bool) (n:Nat) (rows:List (List Int)) (g:Nat) (got:List Int) (i:Int) (b:Nat) (by_:List Int) (x j:Int):St:=
 bA f104.ntmps [(0,.c (.int .i64 k)),(1,.c (.view none (.ints .i64 w) w.length 1 none)),(2,.c (.view none (.bools c) c.length 1 none)),(7,.c (.sl 0 0 n 1 none)),(8,.c (.sl 1 0 g 1 none)),(9,.c (.int .i64 i)),(11,.c (.sl 2 0 b 1 none)),(13,.c (.int .i64 x)),(14,.c (.int .i64 j))]
  [.live (.ivs .i64 rows),.live (.ints .i64 got),.live (.ints .i64 by_)]
noncomputable def vB (k:Int) (w:List Int) (c:List Bool) (n:Nat) (rows:List (List Int)) (g:Nat) (got:List Int) (i x:Int):St:=
 bA f104.ntmps [(0,.c (.int .i64 k)),(1,.c (.view none (.ints .i64 w) w.length 1 none)),(2,.c (.view none (.bools c) c.length 1 none)),(7,.c (.sl 0 0 n 1 none)),(8,.c (.sl 1 0 g 1 none)),(9,.c (.int .i64 i)),(13,.c (.int .i64 x))]
  [.live (.ivs .i64 rows),.live (.ints .i64 got)]
theorem R1 (k:Int) (w:List Int) (c:List Bool) (n:Nat) (rows:List (List Int)) (g:Nat) (got:List Int) (i:Int) (b:Nat) (by_:List Int) (x j:Int):aH 0 (aA f104 2) (aD f104 2) (aK tt (aB T54) ([]) 0 100 (a6 2 (a7 f104)) (r8 k w c n rows g got i b by_ x j) [(0,true)])=
  some (.normal,(decide (j<(↑b:Int))&&(decide (0≤j)&&(decide (j<(↑b:Int))&&(decide (j.toNat<by_.length)&&(decide (0≤j)&&(decide (j<(↑g:Int))&&((decide (j.toNat<got.length))&&true))))))),[],r8 k w c (n) (rows) (g) (got) (i) (b) (by_) ((IntKind.i64.wrap (x+IntKind.i64.wrap (by_.getD j.toNat 0*got.getD j.toNat 0))).tmod 31) (IntKind.i64.wrap (j+1))):=by kernel_rfl
theorem R2 (k:Int) (w:List Int) (c:List Bool) (n:Nat) (rows:List (List Int)) (g:Nat) (got:List Int) (i:Int) (b:Nat) (by_:List Int) (x j:Int):aH 0 (aA f104 2) (aD f104 2) (aK tt (aB T54) ([]) 0 100 (a6 2 (a7 f104)) (r8 k w c n rows g got i b by_ x j) [(0,false)])=
  some (.exit 2,((!decide (j<(↑b:Int)))&&true),[],vB k w c (n) (rows) (g) (got) (i) (x)):=by kernel_rfl
theorem RP (k:Int) (w:List Int) (c:List Bool) (n:Nat) (rows:List (List Int)) (g:Nat) (got:List Int) (i x:Int):aH 0 (aA f104 0) (aD f104 0) (aK tt (aB T54) ([(2,⟨aA f104 2,r8 k w c n rows g got i (byD rows (aL k i)).length (byD rows (aL k i)) 0 0,.normal,vB k w c n rows g got i x⟩)]) 0 100 (a6 0 (a7 f104)) (lK k w c n rows g got i) [(0,true),(0,false),(0,true),(0,true)])=
  some (.ret,(decide (i<8)&&(decide (0≤i)&&(decide (i<(↑c.length:Int))&&(decide (i.toNat<c.length)&&((!!c.getD i.toNat false)&&(bet k 1 2&&(bet i 0 7&&(decide (n=rows.length)&&(decide (rows.length≤274877906944)&&(eS rows&&(decide ((aL k i).length≤274877906944)&&(decide ((cM rows).length≤1000)&&(j9 (aL k i).length (cM rows)&&(a9 (aL k i)&&(iU rows (aL k i)&&(decide (n=rows.length)&&(decide (rows.length≤1000)&&(bZ 4 rows&&(decide ((aL k i).length=4)&&(a9 (aL k i)&&(decide (0≤i)&&(decide (i<(↑w.length:Int))&&(decide (i.toNat<w.length)&&((x !=w.getD i.toNat 0)&&true)))))))))))))))))))))))),[r8 k w c n rows g got i (byD rows (aL k i)).length (byD rows (aL k i)) 0 0=r8 k w c n rows g got i (byD rows (aL k i)).length (byD rows (aL k i)) 0 0],LB):=by kernel_rfl
theorem RQ (k:Int) (w:List Int) (c:List Bool) (n:Nat) (rows:List (List Int)) (g:Nat) (got:List Int) (i x:Int):aH 0 (aA f104 0) (aD f104 0) (aK tt (aB T54) ([(2,⟨aA f104 2,r8 k w c n rows g got i (byD rows (aL k i)).length (byD rows (aL k i)) 0 0,.normal,vB k w c n rows g got i x⟩)]) 0 100 (a6 0 (a7 f104)) (lK k w c n rows g got i) [(0,true),(0,false),(0,true),(0,false)])=
  some (.normal,(decide (i<8)&&(decide (0≤i)&&(decide (i<(↑c.length:Int))&&(decide (i.toNat<c.length)&&((!!c.getD i.toNat false)&&(bet k 1 2&&(bet i 0 7&&(decide (n=rows.length)&&(decide (rows.length≤274877906944)&&(eS rows&&(decide ((aL k i).length≤274877906944)&&(decide ((cM rows).length≤1000)&&(j9 (aL k i).length (cM rows)&&(a9 (aL k i)&&(iU rows (aL k i)&&(decide (n=rows.length)&&(decide (rows.length≤1000)&&(bZ 4 rows&&(decide ((aL k i).length=4)&&(a9 (aL k i)&&(decide (0≤i)&&(decide (i<(↑w.length:Int))&&(decide (i.toNat<w.length)&&((!x !=w.getD i.toNat 0)&&true)))))))))))))))))))))))),[r8 k w c n rows g got i (byD rows (aL k i)).length (byD rows (aL k i)) 0 0=r8 k w c n rows g got i (byD rows (aL k i)).length (byD rows (aL k i)) 0 0],lK k w c (n) (rows) (g) (got) (IntKind.i64.wrap (i+1))):=by kernel_rfl
theorem MG (k:Int) (w:List Int) (c:List Bool) (n:Nat) (rows:List (List Int)) (g:Nat) (got:List Int) (i:Int):aH 0 (aA f104 0) (aD f104 0) (aK tt (aB T54) ([]) 0 100 (a6 0 (a7 f104)) (lK k w c n rows g got i) [(0,true),(0,true)])=
  some (.normal,(decide (i<8)&&(decide (0≤i)&&(decide (i<(↑c.length:Int))&&(decide (i.toNat<c.length)&&((!c.getD i.toNat false)&&true))))),[],lK k w c (n) (rows) (g) (got) (IntKind.i64.wrap (i+1))):=by kernel_rfl
theorem MH (k:Int) (w:List Int) (c:List Bool) (n:Nat) (rows:List (List Int)) (g:Nat) (got:List Int) (i:Int):aH 0 (aA f104 0) (aD f104 0) (aK tt (aB T54) ([]) 0 100 (a6 0 (a7 f104)) (lK k w c n rows g got i) [(0,true),(0,false),(0,false)])=
  some (.normal,(decide (i<8)&&(decide (0≤i)&&(decide (i<(↑c.length:Int))&&(decide (i.toNat<c.length)&&((!!c.getD i.toNat false)&&(bet k 1 2&&(bet i 0 7&&(decide (n=rows.length)&&(decide (rows.length≤274877906944)&&(eS rows&&(decide ((aL k i).length≤274877906944)&&(decide ((cM rows).length≤1000)&&(j9 (aL k i).length (cM rows)&&(a9 (aL k i)&&(!iU rows (aL k i)&&(decide (n=rows.length)&&(decide (n+1≤274877906944)&&(decide (0≤i)&&(decide (i<(↑w.length:Int))&&(decide (i.toNat<w.length)&&(decide (g=got.length)&&((decide (g+1≤274877906944))&&true)))))))))))))))))))))),[],lK k w c (n+1) (rows++[aL k i]) (g+1) (got++[w.getD i.toNat 0]) (IntKind.i64.wrap (i+1))):=by kernel_rfl
theorem MI (k:Int) (w:List Int) (c:List Bool) (n:Nat) (rows:List (List Int)) (g:Nat) (got:List Int) (i:Int):aH 0 (aA f104 0) (aD f104 0) (aK tt (aB T54) ([]) 0 100 (a6 0 (a7 f104)) (lK k w c n rows g got i) [(0,false)])=
  some (.exit 0,((!decide (i<8))&&true),[],KR):=by kernel_rfl
theorem U4 (k:Int) (w:List Int) (c:List Bool):aG tt (aB T54) ([(0,⟨aA f104 0,lK k w c 0 [] 0 [] 0,.normal,KR⟩)]) 100 f104 [.c (.int .i64 k),.c (.view none (.ints .i64 w) w.length 1 none),.c (.view none (.bools c) c.length 1 none)] [] []=
  some ⟨.c (.bool true),[],true,[lK k w c 0 [] 0 [] 0=lK k w c 0 [] 0 [] 0]⟩:=by kernel_rfl
theorem O6 (k:Int) (w:List Int) (c:List Bool):aG tt (aB T54) ([(0,⟨aA f104 0,lK k w c 0 [] 0 [] 0,.ret,LB⟩)]) 100 f104 [.c (.int .i64 k),.c (.view none (.ints .i64 w) w.length 1 none),.c (.view none (.bools c) c.length 1 none)] [] []=
  some ⟨.c (.bool false),[],true,[lK k w c 0 [] 0 [] 0=lK k w c 0 [] 0 [] 0]⟩:=by kernel_rfl
noncomputable abbrev f137:=Tryz.f159
noncomputable def uJ (k:Int) (c:List Bool) (n:Nat) (out:List Int) (i:Int):St:=
 bA f137.ntmps [(0,.c (.int .i64 k)),(1,.c (.view none (.bools c) c.length 1 none)),(5,.c (.sl 0 0 n 1 none)),(6,.c (.int .i64 i))] [.live (.ints .i64 out)]
noncomputable def L0 (k:Int) (c:List Bool) (n:Nat) (out:List Int):St:=
 bA f137.ntmps [(0,.c (.int .i64 k)),(1,.c (.view none (.bools c) c.length 1 none)),(5,.c (.sl 0 0 n 1 none))] [.live (.ints .i64 out)]
theorem SF (k:Int) (c:List Bool) (n:Nat) (out:List Int) (i:Int):aH 0 (aA f137 0) (aD f137 0) (aK tt (aB T54) ([]) 0 100 (a6 0 (a7 f137)) (uJ k c n out i) [(0,true),(0,true)])=
  some (.normal,(decide (i<8)&&(decide (0≤i)&&(decide (i<(↑c.length:Int))&&(decide (i.toNat<c.length)&&((c.getD i.toNat false)&&(decide (n=out.length)&&((decide (n+1≤274877906944))&&true))))))),[],uJ k c (n+1) (out++[i]) (IntKind.i64.wrap (i+1))):=by kernel_rfl
theorem SG (k:Int) (c:List Bool) (n:Nat) (out:List Int) (i:Int):aH 0 (aA f137 0) (aD f137 0) (aK tt (aB T54) ([]) 0 100 (a6 0 (a7 f137)) (uJ k c n out i) [(0,true),(0,false)])=
  some (.normal,(decide (i<8)&&(decide (0≤i)&&(decide (i<(↑c.length:Int))&&(decide (i.toNat<c.length)&&((!c.getD i.toNat false)&&true))))),[],uJ k c (n) (out) (IntKind.i64.wrap (i+1))):=by kernel_rfl
theorem SH (k:Int) (c:List Bool) (n:Nat) (out:List Int) (i:Int):aH 0 (aA f137 0) (aD f137 0) (aK tt (aB T54) ([]) 0 100 (a6 0 (a7 f137)) (uJ k c n out i) [(0,false)])=
  some (.exit 0,((!decide (i<8))&&true),[],L0 k c (n) (out)):=by kernel_rfl
noncomputable abbrev f136:=Tryz.f158
noncomputable def yM (k:Int) (w fr:List Int) (n:Nat) (rows:List (List Int)) (i:Int):St:=
 bA f136.ntmps [(0,.c (.int .i64 k)),(1,.c (.view none (.ints .i64 w) w.length 1 none)),(2,.c (.view none (.ints .i64 fr) fr.length 1 none)),(7,.c (.sl 0 0 n 1 none)),(8,.c (.int .i64 i))] [.live (.ivs .i64 rows)]
noncomputable def KZ (w fr:List Int) (n:Nat) (rows:List (List Int)):St:=
 bA f136.ntmps [(1,.c (.view none (.ints .i64 w) w.length 1 none)),(2,.c (.view none (.ints .i64 fr) fr.length 1 none)),(7,.c (.sl 0 0 n 1 none))] [.live (.ivs .i64 rows)]
theorem SD (k:Int) (w fr:List Int) (n:Nat) (rows:List (List Int)) (i:Int):aH 0 (aA f136 0) (aD f136 0) (aK tt (aB T54) ([]) 0 100 (a6 0 (a7 f136)) (yM k w fr n rows i) [(0,true)])=
  some (.normal,(decide (i<(↑fr.length:Int))&&(decide (0≤i)&&(decide (i<(↑fr.length:Int))&&(decide (i.toNat<fr.length)&&(bet k 1 2&&(bet (fr.getD i.toNat 0) 0 7&&(decide (n=rows.length)&&((decide (n+1≤274877906944))&&true)))))))),[],yM k w fr (n+1) (rows++[aL k (fr.getD i.toNat 0)]) (IntKind.i64.wrap (i+1))):=by kernel_rfl
theorem SE (k:Int) (w fr:List Int) (n:Nat) (rows:List (List Int)) (i:Int):aH 0 (aA f136 0) (aD f136 0) (aK tt (aB T54) ([]) 0 100 (a6 0 (a7 f136)) (yM k w fr n rows i) [(0,false)])=
  some (.exit 0,((!decide (i<(↑fr.length:Int)))&&true),[],KZ w fr (n) (rows)):=by kernel_rfl
end
section
def lR (m:List (List Int)) (v:List Int):Bool:=decide (m.length≤1000)&&(eS m&&(decide (v.length≤1000)&&(decide ((cM m).length≤1000)&&(j9 v.length (cM m)&&a9 v))))
theorem vU {m:List (List Int)} {v:List Int} (h:lR m v=true):m.length≤1000∧eS m=true∧v.length≤1000∧(cM m).length≤1000∧j9 v.length (cM m)=true∧a9 v=true:=by
 simpa only[lR,Bool.and_eq_true,decide_eq_true_eq]using h
def fsS (m:List (List Int)) (i:Nat) (o:List Int):List Int:=bif !iU (m.take i) (m.getD i [])then o++[(i:Int)]else o
def bW (m:List (List Int)):List Int:=bP (fsS m) m.length 0 []
def rA (m:List (List Int)):Bool:=cB (fun i=>lR (m.take i) (m.getD i [])) m.length
theorem a5X (m:List (List Int)) (hm:m.length≤1000) (hf:rA m=true):
  aW Tryz.prog 0 (.block 0 (.loop (a6 0 (a7 f158)))) (uL m 0 [] 0) fun e t=>e=.normal∧t=L5 (bW m).length (bW m):=by
 refine(aW.count hT t54 bM (m:=0) (id:=0) (body:=a6 0 (a7 f158)) m.length (fun i o=>o.length≤i) (fun i o=>uL m o.length o i) (fun o=>L5 o.length o) (fsS m) (aA f158 0) (aD f158 0)
  (fun _ _=>[]) (fun _ _ _ _=>aF.nil) (fun i o hi h=> ?_) (fun o h=>⟨_,_,⟨_,_,SX m o.length o m.length,by simp,by simp⟩⟩)) [] (by simp)
 obtain⟨h1,h2,h3,h4,h5,h6⟩:=vU (aY hf i hi)
 unfold fsS
 cases hq:iU (m.take i) (m.getD i [])with
 |false=>
  refine⟨by simp;omega, ?_⟩
  have e:=SV m o.length o i
  rw[aE (by omega) (by omega),Int.toNat_natCast]at e
  rw[Bool.not_false,cond_true,List.length_append]
  refine⟨_,_,⟨_,_,e, ?_,by simp⟩⟩
  simp only[hq,h2,h5,h6,bS]
  omega
 |true=>
  refine⟨by rw[Bool.not_true,cond_false];omega, ?_⟩
  have e:=SW m o.length o i
  rw[aE (by omega) (by omega),Int.toNat_natCast]at e
  rw[Bool.not_true,cond_false]
  refine⟨_,_,⟨_,_,e, ?_,by simp⟩⟩
  simp only[hq,h2,h5,h6,bS]
  omega
theorem V2 (m:List (List Int)):aG tt (aB T54) ([(0,⟨aA f158 0,uL m 0 [] 0,.normal,L5 (bW m).length (bW m)⟩)]) 100 f158 [.c (.view none (.ivs .i64 m) m.length 1 none)] [] []=
  some ⟨.c (.sl 0 0 (bW m).length 1 none),[.live (.ints .i64 (bW m))],true,[uL m 0 [] 0=uL m 0 [] 0]⟩:=by kernel_rfl
def wN:aQ:=fun args h=>
 match args,h with
 |[.c (.view _ (.ivs .i64 m) n 1 _)],[]=>
  some (.c (.sl 0 0 (bW m).length 1 none),[.live (.ints .i64 (bW m))],[decide (m.length≤1000),rA m])
 |_,_=>none
theorem a7D:aV Tryz.prog 191 wN:=by
 intro args h res h' o hnorm he ho
 unfold wN at he
 split at he
 case h_2=>cases he
 rename_i nl m n cap
 simp only[Option.some.injEq,Prod.mk.injEq]at he
 obtain⟨rfl,rfl,rfl⟩:=he
 simp only[List.mem_cons,List.not_mem_nil,or_false,forall_eq_or_imp,forall_eq,decide_eq_true_eq]at ho
 obtain⟨o1,o2⟩:=ho
 simp only[bG,AV.norm,bI,aJ.norm,Con.size,List.cons.injEq,AV.c.injEq,AV.agg.injEq,aJ.view.injEq,aN,true_and,and_true]at hnorm
 obtain⟨rfl,rfl,rfl⟩:=hnorm
 exact a5 t54 (fn:=f158) (by kernel_rfl) (by kernel_rfl) (V2 m) (by simp) (by simp) (fun cc hcc=>aF.cons (c:=cc) (by cases hcc;kernel_rfl) (by cases hcc;exact a5X m o1 o2) aF.nil)
theorem sR (v w:List Int): ∀(f i:Nat) (n:Int),qF v w f i n=bP (fun i n=>(n+v.getD i 0*w.getD i 0)%31) f i n
 |0,_,_=>rfl
 |f+1,i,n=>sR v w f (i+1) _
theorem XK (k:Int) (w:List Int) (c:List Bool) (n:Nat) (rows:List (List Int)) (g:Nat) (got:List Int) (i:Int) (b:List Int) (hb:b.length≤1000) (hg:g=got.length) (hl:b.length≤got.length) (h1:a9 b=true) (h2:a9 got=true):
  aW Tryz.prog 0 (.block 2 (.loop (a6 2 (a7 f104)))) (r8 k w c n rows g got i b.length b 0 0) fun e t=>e=.normal∧t=vB k w c n rows g got i (aT b got):=by
 have key:=aW.count hT t54 bM (m:=0) (id:=2) (body:=a6 2 (a7 f104)) b.length (fun _ x=>fok x=true) (fun j x=>r8 k w c n rows g got i b.length b x j) (fun x=>vB k w c n rows g got i x) (fun i n=>(n+b.getD i 0*got.getD i 0)%31) (aA f104 2) (aD f104 2)
  (fun _ _=>[]) (fun _ _ _ _=>aF.nil) (fun j x hj h=>⟨c9 _, ?_⟩) (fun x h=>⟨_,_,⟨_,_,R2 k w c n rows g got i b.length b x b.length,by simp,by simp⟩⟩) 0 rfl
 ·unfold aT;rw[sR];exact key
 ·have e:=R1 k w c n rows g got i b.length b x j
  rw[Int.toNat_natCast,sS h (aR h1 j) (aR h2 j),aE (by omega) (by omega)]at e
  refine⟨_,_,⟨_,_,e, ?_,by simp⟩⟩
  simp only[bS]
  omega
def sfS (k:Int) (w:List Int) (c:List Bool) (i:Nat) (s:List (List Int)×List Int):(List (List Int)×List Int)⊕Unit:=
 bif c.getD i false then(bif iU s.1 (aL k i)then(bif aT (byD s.1 (aL k i)) s.2 !=w.getD i 0 then .inr ()else .inl s)else .inl (s.1++[aL k i],s.2++[w.getD i 0]))else .inl s
def sfL (k:Int) (w:List Int) (c:List Bool):Bool:=match dO (sfS k w c) 8 0 ([],[])with
 |.inl _=>true
 |.inr _=>false
def rwT (k:Int) (c:List Bool) (i:Nat) (rows:List (List Int)):List (List Int):=bif c.getD i false&& !iU rows (aL k i)then rows++[aL k i]else rows
def A0 (k:Int) (c:List Bool):Nat→Nat→List (List Int)→Bool
 |0,_,_=>true
 |f+1,i,rows=>(bif c.getD i false then lR rows (aL k i)else true)&&A0 k c f (i+1) (rwT k c i rows)
theorem DM {m:List (List Int)} {v:List Int} (hm:bZ 4 m=true) (h1:v.length=4) (h2:a9 v=true):(byD m v).length≤m.length∧a9 (byD m v)=true:=by
 obtain⟨-,q1,q2⟩:=DN hm h1 h2
 unfold byD
 cases bet (bD (byE m v).2) 0 3
 ·rw[cond_false];exact⟨by rw[gD,List.length_drop];omega,mR _ _⟩
 ·exact⟨by simp,rfl⟩
theorem QA:a6 2 (a6 0 (a7 f104))=a6 2 (a7 f104):=by kernel_rfl
theorem a5G (k:Int) (w:List Int) (c:List Bool) (hk:bet k 1 2=true) (hw:w.length=8) (hf:a9 w=true) (hc:c.length=8) (ho:A0 k c 8 0 []=true):
  aW Tryz.prog 0 (.block 0 (.loop (a6 0 (a7 f104)))) (lK k w c 0 [] 0 [] 0) fun e t=>e=(bif sfL k w c then .normal else .ret)∧t=bif sfL k w c then KR else LB:=by
 have key:=aW.countE hT t54 bM (m:=0) (id:=0) (body:=a6 0 (a7 f104)) (β:=List (List Int)×List Int) (γ:=Unit) 8
  (fun i s=>s.1.length≤i∧s.2.length=s.1.length∧bZ 4 s.1=true∧a9 s.2=true∧A0 k c (8-i) i s.1=true) (fun i s=>lK k w c s.1.length s.1 s.2.length s.2 i) (fun _=>KR) (fun _=>LB) .ret (.inr rfl) (sfS k w c) (aA f104 0) (aD f104 0)
  (fun i s=>bif c.getD i false&&iU s.1 (aL k i)then [(2,⟨aA f104 2,r8 k w c s.1.length s.1 s.2.length s.2 i (byD s.1 (aL k i)).length (byD s.1 (aL k i)) 0 0,.normal,vB k w c s.1.length s.1 s.2.length s.2 i (aT (byD s.1 (aL k i)) s.2)⟩)]else [])
  (fun i s hi h=> ?_) (fun i s hi h=> ?_) (fun s h=>⟨_,_,⟨_,_,MI k w c s.1.length s.1 s.2.length s.2 (8:Nat),by simp,by simp⟩⟩) ([],[]) ⟨by simp,rfl,rfl,rfl,ho⟩
 ·refine aW.mono key fun e t h=> ?_
  unfold sfL
  revert h
  cases dO (sfS k w c) 8 0 ([],[])<;>exact fun h=>h
 ·obtain⟨h1,h2,h3,h4,h5⟩:=h
  have hb:bet (i:Int) 0 7=true:=b8.2 ⟨by omega,by omega⟩
  cases hx:c.getD i false&&iU s.1 (aL k i)with
  |false=>exact aF.nil
  |true=>
   obtain⟨q1,q2⟩:=DM h3 (j4 hk hb) (hR hk hb)
   exact aF.cons (by kernel_rfl) (by rw[QA];exact XK k w c s.1.length s.1 s.2.length s.2 i (byD s.1 (aL k i)) (by omega) rfl (by omega) q2 h4) aF.nil
 ·obtain⟨h1,h2,h3,h4,h5⟩:=h
  have hb:bet (i:Int) 0 7=true:=b8.2 ⟨by omega,by omega⟩
  have hb':=b8.1 hb
  rw[show 8-i=(8-(i+1))+1 from by omega]at h5
  simp only[A0,Bool.and_eq_true]at h5
  obtain⟨h5,h6⟩:=h5
  have g1:=j4 hk hb
  have g2:=hR hk hb
  cases hq:c.getD i false with
  |false=>
   refine .inl ⟨s,by simp only[sfS,hq,cond_false],⟨by omega,h2,h3,h4, ?_⟩, ?_⟩
   ·unfold rwT at h6;rw[hq,Bool.false_and,cond_false]at h6;exact h6
   ·have e:=MG k w c s.1.length s.1 s.2.length s.2 i
    rw[aE (by omega) (by omega),Int.toNat_natCast]at e
    rw[Bool.false_and,cond_false]
    refine⟨_,_,⟨_,_,e, ?_,by simp⟩⟩
    simp only[hq,bS]
    omega
  |true=>
   rw[hq,cond_true]at h5
   obtain⟨z1,z2,z3,z4,z5,z6⟩:=vU h5
   cases hh:iU s.1 (aL k i)with
   |false=>
    refine .inl ⟨(s.1++[aL k i],s.2++[w.getD i 0]),by simp only[sfS,hq,hh,cond_true,cond_false],⟨by simp;omega,by simp;omega,mP h3 g1 g2,eI h4 (by simp[a9,aR hf,-List.getD_eq_getElem?_getD]), ?_⟩, ?_⟩
    ·unfold rwT at h6;rw[hq,hh,Bool.true_and,Bool.not_false,cond_true]at h6;exact h6
    ·have e:=MH k w c s.1.length s.1 s.2.length s.2 i
     rw[aE (by omega) (by omega),Int.toNat_natCast]at e
     rw[Bool.true_and,cond_false]
     simp only[List.length_append,List.length_cons,List.length_nil]
     refine⟨_,_,⟨_,_,e, ?_,by simp⟩⟩
     simp only[hq,hh,hk,hb,g1,g2,z2,z4,z6,bS]
     rw[g1]at z5
     simp only[z5,bS]
     omega
   |true=>
    have z5':=z5
    rw[g1]at z5'
    cases hd:(aT (byD s.1 (aL k i)) s.2 !=w.getD i 0)with
    |true=>
     refine .inr ⟨(),by simp only[sfS,hq,hh,hd,cond_true], ?_⟩
     have e:=RP k w c s.1.length s.1 s.2.length s.2 i (aT (byD s.1 (aL k i)) s.2)
     rw[Int.toNat_natCast]at e
     rw[Bool.true_and,cond_true,if_neg (by intro h;cases h)]
     refine⟨_,_,⟨_,_,e, ?_,by simp⟩⟩
     simp only[hq,hh,hk,hb,hd,g1,g2,h3,z2,z4,z5',z6,bS]
     omega
    |false=>
     refine .inl ⟨s,by simp only[sfS,hq,hh,hd,cond_true,cond_false],⟨by omega,h2,h3,h4, ?_⟩, ?_⟩
     ·unfold rwT at h6;rw[hq,hh,Bool.true_and,Bool.not_true,cond_false]at h6;exact h6
     ·have e:=RQ k w c s.1.length s.1 s.2.length s.2 i (aT (byD s.1 (aL k i)) s.2)
      rw[aE (by omega) (by omega),Int.toNat_natCast]at e
      rw[Bool.true_and,cond_true]
      refine⟨_,_,⟨_,_,e, ?_,by simp⟩⟩
      simp only[hq,hh,hk,hb,hd,g1,g2,h3,z2,z4,z5',z6,bS]
      omega
def PV:aQ:=fun args h=>
 match args,h with
 |[.c (.int .i64 k),.c (.view _ (.ints .i64 w) n1 1 _),.c (.view _ (.bools c) n2 1 _)],[]=>
  some (.c (.bool (sfL k w c)),[],[bet k 1 2,decide (w.length=8),a9 w,decide (c.length=8),A0 k c 8 0 []])
 |_,_=>none
theorem XR:aV Tryz.prog 118 PV:=by
 intro args h res h' o hnorm he ho
 unfold PV at he
 split at he
 case h_2=>cases he
 rename_i k nl w n cap nl2 c n2 cap2
 simp only[Option.some.injEq,Prod.mk.injEq]at he
 obtain⟨rfl,rfl,rfl⟩:=he
 simp only[List.mem_cons,List.not_mem_nil,or_false,forall_eq_or_imp,forall_eq,decide_eq_true_eq]at ho
 obtain⟨o1,o2,o3,o4,o5⟩:=ho
 simp only[bG,AV.norm,bI,aJ.norm,Con.size,List.cons.injEq,AV.c.injEq,AV.agg.injEq,aJ.view.injEq,aN,true_and,and_true]at hnorm
 obtain⟨⟨rfl,rfl,rfl⟩,rfl,rfl,rfl⟩:=hnorm
 have g:=a5G k w c o1 o2 o3 o4 o5
 cases hx:sfL k w c with
 |true=>
  rw[hx]at g
  exact a5 t54 (fn:=f104) (by kernel_rfl) (by kernel_rfl) (U4 k w c) (by simp) (by simp) (fun cc hcc=>aF.cons (c:=cc) (by cases hcc;kernel_rfl) (by cases hcc;exact g) aF.nil)
 |false=>
  rw[hx]at g
  exact a5 t54 (fn:=f104) (by kernel_rfl) (by kernel_rfl) (O6 k w c) (by simp) (by simp) (fun cc hcc=>aF.cons (c:=cc) (by cases hcc;kernel_rfl) (by cases hcc;exact g) aF.nil)
noncomputable def T55:List bF:=[⟨191,[],nm wN⟩,⟨118,[],nm PV⟩]++T54
theorem e55:a8 Tryz.prog T55:=by
 refine a8.append ?_ e54
 intro e he
 simp only[List.mem_cons,List.not_mem_nil,or_false]at he
 rcases he with rfl|rfl
 ·exact a7D.ok
 ·exact XR.ok
theorem t55:bN Tryz.prog (aB T55):=aP e55
end
section
noncomputable def xH (n:Nat) (ats:List Int) (m:Nat) (fst:List Int) (g:Nat) (out:List Int) (i:Int):St:=
 bA f137.ntmps [(5,.c (.sl 0 0 n 1 none)),(7,.c (.sl 1 0 m 1 none)),(8,.c (.sl 2 0 g 1 none)),(9,.c (.int .i64 i))] [.live (.ints .i64 ats),.live (.ints .i64 fst),.live (.ints .i64 out)]
noncomputable def H8 (g:Nat) (out:List Int):St:=bA f137.ntmps [(8,.c (.sl 0 0 g 1 none))] [.live (.ints .i64 out)]
theorem R4 (n:Nat) (ats:List Int) (m:Nat) (fst:List Int) (g:Nat) (out:List Int) (i:Int):aH 0 (aA f137 2) (aD f137 2) (aK tt (aB T55) ([]) 0 100 (a6 2 (a7 f137)) (xH n ats m fst g out i) [(0,true)])=
  some (.normal,(decide (i<(↑m:Int))&&(decide (0≤i)&&(decide (i<(↑m:Int))&&(decide (i.toNat<fst.length)&&(decide (0≤fst.getD i.toNat 0)&&(decide (fst.getD i.toNat 0<(↑n:Int))&&(decide ((fst.getD i.toNat 0).toNat<ats.length)&&(decide (g=out.length)&&((decide (g+1≤274877906944))&&true))))))))),[],xH n ats m fst (g+1) (out++[ats.getD (fst.getD i.toNat 0).toNat 0]) (IntKind.i64.wrap (i+1))):=by kernel_rfl
theorem R5 (n:Nat) (ats:List Int) (m:Nat) (fst:List Int) (g:Nat) (out:List Int) (i:Int):aH 0 (aA f137 2) (aD f137 2) (aK tt (aB T55) ([]) 0 100 (a6 2 (a7 f137)) (xH n ats m fst g out i) [(0,false)])=
  some (.exit 2,((!decide (i<(↑m:Int)))&&true),[],H8 (g) (out)):=by kernel_rfl
noncomputable def yR (w fr:List Int) (n:Nat) (rows:List (List Int)) (g:Nat) (out:List Int) (i:Int):St:=
 bA f136.ntmps [(1,.c (.view none (.ints .i64 w) w.length 1 none)),(2,.c (.view none (.ints .i64 fr) fr.length 1 none)),(7,.c (.sl 0 0 n 1 none)),(9,.c (.sl 1 0 g 1 none)),(10,.c (.int .i64 i))] [.live (.ivs .i64 rows),.live (.ints .i64 out)]
noncomputable def EL (g:Nat) (out:List Int):St:=bA f136.ntmps [(9,.c (.sl 0 0 g 1 none))] [.live (.ints .i64 out)]
noncomputable def xI (w fr:List Int) (n:Nat) (rows:List (List Int)) (g:Nat) (out:List Int) (i:Int) (b:Nat) (by_:List Int) (x j:Int):St:=
 bA f136.ntmps [(1,.c (.view none (.ints .i64 w) w.length 1 none)),(2,.c (.view none (.ints .i64 fr) fr.length 1 none)),(7,.c (.sl 0 0 n 1 none)),(9,.c (.sl 1 0 g 1 none)),(10,.c (.int .i64 i)),(13,.c (.sl 2 0 b 1 none)),(15,.c (.int .i64 x)),(16,.c (.int .i64 j))]
  [.live (.ivs .i64 rows),.live (.ints .i64 out),.live (.ints .i64 by_)]
noncomputable def HD (w fr:List Int) (n:Nat) (rows:List (List Int)) (g:Nat) (out:List Int) (i x:Int):St:=
 bA f136.ntmps [(1,.c (.view none (.ints .i64 w) w.length 1 none)),(2,.c (.view none (.ints .i64 fr) fr.length 1 none)),(7,.c (.sl 0 0 n 1 none)),(9,.c (.sl 1 0 g 1 none)),(10,.c (.int .i64 i)),(15,.c (.int .i64 x))]
  [.live (.ivs .i64 rows),.live (.ints .i64 out)]
theorem RA (w fr:List Int) (n:Nat) (rows:List (List Int)) (g:Nat) (out:List Int) (i:Int) (b:Nat) (by_:List Int) (x j:Int):aH 0 (aA f136 4) (aD f136 4) (aK tt (aB T55) ([]) 0 100 (a6 4 (a7 f136)) (xI w fr n rows g out i b by_ x j) [(0,true)])=
  some (.normal,(decide (j<(↑fr.length:Int))&&(decide (0≤j)&&(decide (j<(↑b:Int))&&(decide (j.toNat<by_.length)&&(decide (0≤j)&&(decide (j<(↑fr.length:Int))&&(decide (j.toNat<fr.length)&&(decide (0≤fr.getD j.toNat 0)&&(decide (fr.getD j.toNat 0<(↑w.length:Int))&&((decide ((fr.getD j.toNat 0).toNat<w.length))&&true)))))))))),[],xI w fr (n) (rows) (g) (out) (i) (b) (by_) ((IntKind.i64.wrap (x+IntKind.i64.wrap (by_.getD j.toNat 0*w.getD (fr.getD j.toNat 0).toNat 0))).tmod 31) (IntKind.i64.wrap (j+1))):=by kernel_rfl
theorem RB (w fr:List Int) (n:Nat) (rows:List (List Int)) (g:Nat) (out:List Int) (i:Int) (b:Nat) (by_:List Int) (x j:Int):aH 0 (aA f136 4) (aD f136 4) (aK tt (aB T55) ([]) 0 100 (a6 4 (a7 f136)) (xI w fr n rows g out i b by_ x j) [(0,false)])=
  some (.exit 4,((!decide (j<(↑fr.length:Int)))&&true),[],HD w fr (n) (rows) (g) (out) (i) (x)):=by kernel_rfl
theorem R3 (w fr:List Int) (n:Nat) (rows:List (List Int)) (g:Nat) (out:List Int) (i x:Int):aH 0 (aA f136 2) (aD f136 2) (aK tt (aB T55) ([(4,⟨aA f136 4,xI w fr n rows g out i (byD rows (unL i)).length (byD rows (unL i)) 0 0,.normal,HD w fr n rows g out i x⟩)]) 0 100 (a6 2 (a7 f136)) (yR w fr n rows g out i) [(0,true)])=
  some (.normal,(decide (i<4)&&(bet i 0 3&&(decide (n=rows.length)&&(decide (rows.length≤1000)&&(bZ 4 rows&&(decide ((unL i).length=4)&&(a9 (unL i)&&(decide (g=out.length)&&((decide (g+1≤274877906944))&&true))))))))),[xI w fr n rows g out i (byD rows (unL i)).length (byD rows (unL i)) 0 0=xI w fr n rows g out i (byD rows (unL i)).length (byD rows (unL i)) 0 0],yR w fr (n) (rows) (g+1) (out++[x]) (IntKind.i64.wrap (i+1))):=by kernel_rfl
theorem M5 (w fr:List Int) (n:Nat) (rows:List (List Int)) (g:Nat) (out:List Int) (i:Int):aH 0 (aA f136 2) (aD f136 2) (aK tt (aB T55) ([]) 0 100 (a6 2 (a7 f136)) (yR w fr n rows g out i) [(0,false)])=
  some (.exit 2,((!decide (i<4))&&true),[],EL (g) (out)):=by kernel_rfl
theorem US (k:Int) (w fr:List Int) (rows:List (List Int)) (out:List Int):aG tt (aB T55) ([(0,⟨aA f136 0,yM k w fr 0 [] 0,.normal,KZ w fr rows.length rows⟩),(2,⟨aA f136 2,yR w fr rows.length rows 0 [] 0,.normal,EL 4 out⟩)]) 100 f136 [.c (.int .i64 k),.c (.view none (.ints .i64 w) w.length 1 none),.c (.view none (.ints .i64 fr) fr.length 1 none)] [] []=
  some ⟨.c (.sl 0 0 4 1 none),[.live (.ints .i64 out)],true,[yM k w fr 0 [] 0=yM k w fr 0 [] 0,yR w fr rows.length rows 0 [] 0=yR w fr rows.length rows 0 [] 0]⟩:=by kernel_rfl
theorem UT (k:Int) (c:List Bool) (ats out:List Int):aG tt (aB T55) ([(0,⟨aA f137 0,uJ k c 0 [] 0,.normal,L0 k c ats.length ats⟩),(2,⟨aA f137 2,xH ats.length ats (bW (rwL k c)).length (bW (rwL k c)) 0 [] 0,.normal,H8 out.length out⟩)]) 100 f137 [.c (.int .i64 k),.c (.view none (.bools c) c.length 1 none)] [] []=
  some ⟨.c (.sl 0 0 out.length 1 none),[.live (.ints .i64 out)],(bet k 1 2&&(decide (c.length=8)&&(decide ((rwL k c).length≤1000)&&((rA (rwL k c))&&true)))),[uJ k c 0 [] 0=uJ k c 0 [] 0,xH ats.length ats (bW (rwL k c)).length (bW (rwL k c)) 0 [] 0=xH ats.length ats (bW (rwL k c)).length (bW (rwL k c)) 0 [] 0]⟩:=by kernel_rfl
end
section
def faS (c:List Bool) (i:Nat) (o:List Int):List Int:=bif c.getD i false then o++[(i:Int)]else o
theorem J4 (c:List Bool): ∀(f i:Nat) (o:List Int),bP (faS c) f i o=o++eG c f i
 |0,i,o=>by simp[bP,eG]
 |f+1,i,o=>by
  have e:bP (faS c) (f+1) i o=bP (faS c) f (i+1) (faS c i o):=rfl
  rw[e,J4 c f (i+1)]
  simp only[eG,faS]
  cases c.getD i false<;>simp
theorem LV {c:List Bool} (hc:c.length=8):bP (faS c) 8 0 []=flg c:=by rw[J4,flg,hc];rfl
theorem a5R (k:Int) (c:List Bool) (hc:c.length=8):
  aW Tryz.prog 0 (.block 0 (.loop (a6 0 (a7 f137)))) (uJ k c 0 [] 0) fun e t=>e=.normal∧t=L0 k c (flg c).length (flg c):=by
 have key:=aW.count hT t54 bM (m:=0) (id:=0) (body:=a6 0 (a7 f137)) 8 (fun i o=>o.length≤i) (fun i o=>uJ k c o.length o i) (fun o=>L0 k c o.length o) (faS c) (aA f137 0) (aD f137 0)
  (fun _ _=>[]) (fun _ _ _ _=>aF.nil) (fun i o hi h=> ?_) (fun o h=>⟨_,_,⟨_,_,SH k c o.length o (8:Nat),by simp,by simp⟩⟩) [] (by simp)
 ·rw[LV hc]at key;exact key
 ·unfold faS
  cases hq:c.getD i false with
  |true=>
   refine⟨by simp;omega, ?_⟩
   have e:=SF k c o.length o i
   rw[aE (by omega) (by omega),Int.toNat_natCast]at e
   rw[cond_true,List.length_append]
   refine⟨_,_,⟨_,_,e, ?_,by simp⟩⟩
   simp only[hq,bS]
   omega
  |false=>
   refine⟨by rw[cond_false];omega, ?_⟩
   have e:=SG k c o.length o i
   rw[aE (by omega) (by omega),Int.toNat_natCast]at e
   rw[cond_false]
   refine⟨_,_,⟨_,_,e, ?_,by simp⟩⟩
   simp only[hq,bS]
   omega
def frS (c:List Bool) (fst:List Int) (i:Nat) (o:List Int):List Int:=o++[(flg c).getD (fst.getD i 0).toNat 0]
def frL (k:Int) (c:List Bool):List Int:=bP (frS c (bW (rwL k c))) (bW (rwL k c)).length 0 []
theorem l5 (k:Int) (c:List Bool):(frL k c).length=(bW (rwL k c)).length:=
 bH (step:=frS c (bW (rwL k c))) (fun i o=>o.length=i) _ [] rfl fun i o _ h=>by simp[frS,h]
theorem XN (ats c:List Int) (fst:List Int) (cc:List Bool) (ha:ats=flg cc) (hf:fst.length≤1000) (hp:dC fst ats.length=true):
  aW Tryz.prog 0 (.block 2 (.loop (a6 2 (a7 f137)))) (xH ats.length ats fst.length fst 0 [] 0) fun e t=>e=.normal∧t=H8 fst.length (bP (frS cc fst) fst.length 0 []):=by
 have hl:(bP (frS cc fst) fst.length 0 []).length=fst.length:=bH (step:=frS cc fst) (fun i o=>o.length=i) _ [] rfl fun i o _ h=>by simp[frS,h]
 have key:=aW.count hT t55 bM (m:=0) (id:=2) (body:=a6 2 (a7 f137)) fst.length (fun i o=>o.length=i) (fun i o=>xH ats.length ats fst.length fst o.length o i) (fun o=>H8 o.length o) (frS cc fst) (aA f137 2) (aD f137 2)
  (fun _ _=>[]) (fun _ _ _ _=>aF.nil) (fun i o hi h=>⟨by simp[frS,h], ?_⟩) (fun o h=>⟨_,_,⟨_,_,R5 ats.length ats fst.length fst o.length o fst.length,by simp,by simp⟩⟩) [] rfl
 ·rw[hl]at key;exact key
 ·have hp':=hJ hp hi
  have e:=R4 ats.length ats fst.length fst o.length o i
  rw[aE (by omega) (by omega),Int.toNat_natCast]at e
  unfold frS
  rw[List.length_append,←ha]
  refine⟨_,_,⟨_,_,e, ?_,by simp⟩⟩
  simp only[bS]
  omega
def B9:aQ:=fun args h=>
 match args,h with
 |[.c (.int .i64 k),.c (.view _ (.bools c) n 1 _)],[]=>
  some (.c (.sl 0 0 (frL k c).length 1 none),[.live (.ints .i64 (frL k c))],[bet k 1 2,decide (c.length=8),decide ((rwL k c).length≤1000),rA (rwL k c),dC (bW (rwL k c)) (flg c).length,decide ((bW (rwL k c)).length≤1000)])
 |_,_=>none
theorem a6W:aV Tryz.prog 159 B9:=by
 intro args h res h' o hnorm he ho
 unfold B9 at he
 split at he
 case h_2=>cases he
 rename_i k nl c n cap
 simp only[Option.some.injEq,Prod.mk.injEq]at he
 obtain⟨rfl,rfl,rfl⟩:=he
 simp only[List.mem_cons,List.not_mem_nil,or_false,forall_eq_or_imp,forall_eq,decide_eq_true_eq]at ho
 obtain⟨o1,o2,o3,o4,o5,o6⟩:=ho
 simp only[bG,AV.norm,bI,aJ.norm,Con.size,List.cons.injEq,AV.c.injEq,AV.agg.injEq,aJ.view.injEq,aN,true_and,and_true]at hnorm
 obtain⟨rfl,rfl,rfl⟩:=hnorm
 have g:=XN (flg c) [] (bW (rwL k c)) c rfl o6 o5
 have e:=UT k c (flg c) (frL k c)
 rw[←l5 k c]at g
 have g':aW Tryz.prog 0 (.block 2 (.loop (a6 2 (a7 f137)))) (xH (flg c).length (flg c) (bW (rwL k c)).length (bW (rwL k c)) 0 [] 0) fun e t=>e=.normal∧t=H8 (frL k c).length (frL k c):=by rw[l5];rw[l5]at g;exact g
 exact a5 t55 (fn:=f137) (by kernel_rfl) (by kernel_rfl) e (by simp only[o1,o2,o4,bS];omega) (by simp)
  (fun cc hcc=>aF.cons (c:=cc) (by cases hcc;kernel_rfl) (by cases hcc;exact a5R k c o2) (aF.cons (by cases hcc;kernel_rfl) (by cases hcc;exact g') aF.nil))
def rfS (k:Int) (fr:List Int) (i:Nat) (o:List (List Int)):List (List Int):=o++[aL k (fr.getD i 0)]
def rfL (k:Int) (fr:List Int):List (List Int):=bP (rfS k fr) fr.length 0 []
theorem EE {k:Int} {fr:List Int} (hk:bet k 1 2=true) (hf:aM fr=true):(rfL k fr).length=fr.length∧bZ 4 (rfL k fr)=true:=
 bH (step:=rfS k fr) (fun i o=>o.length=i∧bZ 4 o=true) fr.length [] ⟨rfl,rfl⟩ fun i o hi h=>by
  have hb:=cD hf hi
  exact⟨by simp[rfS,h.1],mP h.2 (j4 hk hb) (hR hk hb)⟩
theorem a5Q (k:Int) (w fr:List Int) (hk:bet k 1 2=true) (hf:aM fr=true) (hl:fr.length≤1000):
  aW Tryz.prog 0 (.block 0 (.loop (a6 0 (a7 f136)))) (yM k w fr 0 [] 0) fun e t=>e=.normal∧t=KZ w fr (rfL k fr).length (rfL k fr):=by
 refine aW.count hT t54 bM (m:=0) (id:=0) (body:=a6 0 (a7 f136)) fr.length (fun i o=>o.length=i) (fun i o=>yM k w fr o.length o i) (fun o=>KZ w fr o.length o) (rfS k fr) (aA f136 0) (aD f136 0)
  (fun _ _=>[]) (fun _ _ _ _=>aF.nil) (fun i o hi h=>⟨by simp[rfS,h], ?_⟩) (fun o h=>⟨_,_,⟨_,_,SE k w fr o.length o fr.length,by simp,by simp⟩⟩) [] rfl
 have hb:=cD hf hi
 have e:=SD k w fr o.length o i
 rw[aE (by omega) (by omega),Int.toNat_natCast]at e
 unfold rfS
 rw[List.length_append]
 refine⟨_,_,⟨_,_,e, ?_,by simp⟩⟩
 simp only[hk,hb,bS]
 omega
def dtS (b w fr:List Int) (j:Nat) (n:Int):Int:=(n+b.getD j 0*w.getD (fr.getD j 0).toNat 0)%31
def dtN (b w fr:List Int):Int:=bP (dtS b w fr) fr.length 0 0
theorem XP (w fr:List Int) (n:Nat) (rows:List (List Int)) (g:Nat) (out:List Int) (i:Int) (b:List Int) (hl:fr.length≤1000) (hb:fr.length≤b.length) (h1:a9 b=true) (h2:a9 w=true) (hw:w.length=8) (hf:aM fr=true):
  aW Tryz.prog 0 (.block 4 (.loop (a6 4 (a7 f136)))) (xI w fr n rows g out i b.length b 0 0) fun e t=>e=.normal∧t=HD w fr n rows g out i (dtN b w fr):=by
 refine aW.count hT t55 bM (m:=0) (id:=4) (body:=a6 4 (a7 f136)) fr.length (fun _ x=>fok x=true) (fun j x=>xI w fr n rows g out i b.length b x j) (fun x=>HD w fr n rows g out i x) (dtS b w fr) (aA f136 4) (aD f136 4)
  (fun _ _=>[]) (fun _ _ _ _=>aF.nil) (fun j x hj h=>⟨c9 _, ?_⟩) (fun x h=>⟨_,_,⟨_,_,RB w fr n rows g out i b.length b x fr.length,by simp,by simp⟩⟩) 0 rfl
 have hs:=b8.1 (cD hf hj)
 have e:=RA w fr n rows g out i b.length b x j
 rw[Int.toNat_natCast,sS h (aR h1 j) (aR h2 _),aE (by omega) (by omega)]at e
 refine⟨_,_,⟨_,_,e, ?_,by simp⟩⟩
 simp only[bS]
 omega
def dlS (k:Int) (w fr:List Int) (i:Nat) (o:List Int):List Int:=o++[dtN (byD (rfL k fr) (unL i)) w fr]
def dlL (k:Int) (w fr:List Int):List Int:=bP (dlS k w fr) 4 0 []
theorem KD {i:Nat} (hi:i<4):(unL i).length=4∧a9 (unL i)=true:=by
 refine⟨by simp[unL], ?_⟩
 match i,hi with
 |0,_|1,_|2,_|3,_=>rfl
theorem LI:a6 4 (a6 2 (a7 f136))=a6 4 (a7 f136):=by kernel_rfl
theorem XM (k:Int) (w fr:List Int) (hk:bet k 1 2=true) (hf:aM fr=true) (hl:fr.length≤8) (h2:a9 w=true) (hw:w.length=8) (hb:cB (fun i=>Nat.ble fr.length (byD (rfL k fr) (unL i)).length) 4=true):
  aW Tryz.prog 0 (.block 2 (.loop (a6 2 (a7 f136)))) (yR w fr (rfL k fr).length (rfL k fr) 0 [] 0) fun e t=>e=.normal∧t=EL 4 (dlL k w fr):=by
 obtain⟨r1,r2⟩:=EE hk hf
 have hl4:(dlL k w fr).length=4:=bH (step:=dlS k w fr) (fun i o=>o.length=i) 4 [] rfl fun i o _ h=>by simp[dlS,h]
 have key:=aW.count hT t55 bM (m:=0) (id:=2) (body:=a6 2 (a7 f136)) 4 (fun i o=>o.length=i) (fun i o=>yR w fr (rfL k fr).length (rfL k fr) o.length o i) (fun o=>EL o.length o) (dlS k w fr) (aA f136 2) (aD f136 2)
  (fun i o=>[(4,⟨aA f136 4,xI w fr (rfL k fr).length (rfL k fr) o.length o i (byD (rfL k fr) (unL i)).length (byD (rfL k fr) (unL i)) 0 0,.normal,HD w fr (rfL k fr).length (rfL k fr) o.length o i (dtN (byD (rfL k fr) (unL i)) w fr)⟩)])
  (fun i o hi h=> ?_) (fun i o hi h=>⟨by simp[dlS,h], ?_⟩) (fun o h=>⟨_,_,⟨_,_,M5 w fr (rfL k fr).length (rfL k fr) o.length o (4:Nat),by simp,by simp⟩⟩) [] rfl
 ·have e:EL (bP (dlS k w fr) 4 0 []).length (bP (dlS k w fr) 4 0 [])=EL 4 (dlL k w fr):=by
   have:(bP (dlS k w fr) 4 0 []).length=4:=hl4
   rw[this];rfl
  rw[e]at key;exact key
 ·obtain⟨u1,u2⟩:=KD hi
  obtain⟨q1,q2⟩:=DM r2 u1 u2
  have hbi:=Nat.le_of_ble_eq_true (aY hb i hi)
  exact aF.cons (by kernel_rfl) (by rw[LI];exact XP w fr (rfL k fr).length (rfL k fr) o.length o i (byD (rfL k fr) (unL i)) (by omega) hbi q2 h2 hw hf) aF.nil
 ·obtain⟨u1,u2⟩:=KD hi
  have hbt:bet (i:Int) 0 3=true:=b8.2 ⟨by omega,by omega⟩
  have e:=R3 w fr (rfL k fr).length (rfL k fr) o.length o i (dtN (byD (rfL k fr) (unL i)) w fr)
  rw[aE (by omega) (by omega)]at e
  unfold dlS
  rw[List.length_append]
  refine⟨_,_,⟨_,_,e, ?_,by simp⟩⟩
  simp only[hbt,u1,u2,r1,r2,bS]
  omega
def B6:aQ:=fun args h=>
 match args,h with
 |[.c (.int .i64 k),.c (.view _ (.ints .i64 w) n1 1 _),.c (.view _ (.ints .i64 fr) n2 1 _)],[]=>
  some (.c (.sl 0 0 4 1 none),[.live (.ints .i64 (dlL k w fr))],[bet k 1 2,aM fr,decide (fr.length≤8),a9 w,decide (w.length=8),cB (fun i=>Nat.ble fr.length (byD (rfL k fr) (unL i)).length) 4])
 |_,_=>none
theorem a6V:aV Tryz.prog 158 B6:=by
 intro args h res h' o hnorm he ho
 unfold B6 at he
 split at he
 case h_2=>cases he
 rename_i k nl w n1 cap nl2 fr n2 cap2
 simp only[Option.some.injEq,Prod.mk.injEq]at he
 obtain⟨rfl,rfl,rfl⟩:=he
 simp only[List.mem_cons,List.not_mem_nil,or_false,forall_eq_or_imp,forall_eq,decide_eq_true_eq]at ho
 obtain⟨o1,o2,o3,o4,o5,o6⟩:=ho
 simp only[bG,AV.norm,bI,aJ.norm,Con.size,List.cons.injEq,AV.c.injEq,AV.agg.injEq,aJ.view.injEq,aN,true_and,and_true]at hnorm
 obtain⟨⟨rfl,rfl,rfl⟩,rfl,rfl,rfl⟩:=hnorm
 exact a5 t55 (fn:=f136) (by kernel_rfl) (by kernel_rfl) (US k w fr (rfL k fr) (dlL k w fr)) (by simp) (by simp)
  (fun cc hcc=>aF.cons (c:=cc) (by cases hcc;kernel_rfl) (by cases hcc;exact a5Q k w fr o1 o2 (by omega)) (aF.cons (by cases hcc;kernel_rfl) (by cases hcc;exact XM k w fr o1 o2 o3 o4 o5 o6) aF.nil))
noncomputable def T56:List bF:=[⟨159,[],nm B9⟩,⟨158,[],nm B6⟩]++T55
theorem e56:a8 Tryz.prog T56:=by
 refine a8.append ?_ e55
 intro e he
 simp only[List.mem_cons,List.not_mem_nil,or_false]at he
 rcases he with rfl|rfl
 ·exact a6W.ok
 ·exact a6V.ok
end
section
def okC (v:List Int) (out:List (List Int)):Bool:=decide (v.length≤274877906944)&&(decide (out.length≤1000)&&(j9 v.length out&&a9 v))
theorem oL (m:List (List Int)) (f i:Nat) (out:List (List Int)):d9 m (f+1) i out=(okC (m.getD i []) out&&d9 m f (i+1) (hX m i out)):=by
 rw[d9,okC]
theorem AO (m:List (List Int)) (x:List (List Int)): ∀(f i:Nat) (out:List (List Int)),i+f≤m.length→d9 (m++x) f i out=d9 m f i out∧bP (hX (m++x)) f i out=bP (hX m) f i out:=by
 intro f
 induction f with
 |zero=>intro i out h;exact⟨by rw[d9,d9],by rw[bP,bP]⟩
 |succ f ih=>
  intro i out h
  have e:(m++x).getD i []=m.getD i []:=by
   rw[List.getD_eq_getElem?_getD,List.getD_eq_getElem?_getD,List.getElem?_append_left (by omega)]
  have et:hX (m++x) i out=hX m i out:=by unfold hX;rw[e]
  obtain⟨i1,i2⟩:=ih (i+1) (hX m i out) (by omega)
  refine⟨?_, ?_⟩
  ·rw[oL,oL,e,et,i1]
  ·rw[bP,bP,et,i2]
theorem oK (m:List (List Int)): ∀(f i:Nat) (out:List (List Int)),d9 m (f+1) i out=(d9 m f i out&&okC (m.getD (i+f) []) (bP (hX m) f i out))∧bP (hX m) (f+1) i out=hX m (i+f) (bP (hX m) f i out)
 |0,i,out=>by
  refine⟨?_,rfl⟩
  simp only[d9,Bool.and_true,Bool.true_and,Nat.add_zero,okC];rfl
 |f+1,i,out=>by
  obtain⟨i1,i2⟩:=oK m f (i+1) (hX m i out)
  refine⟨?_, ?_⟩
  ·have e:d9 m (f+1+1) i out=((decide ((m.getD i []).length≤274877906944)&&(decide (out.length≤1000)&&(j9 (m.getD i []).length out&&a9 (m.getD i []))))&&d9 m (f+1) (i+1) (hX m i out)):=rfl
   have e2:d9 m (f+1) i out=((decide ((m.getD i []).length≤274877906944)&&(decide (out.length≤1000)&&(j9 (m.getD i []).length out&&a9 (m.getD i []))))&&d9 m f (i+1) (hX m i out)):=rfl
   have e3:bP (hX m) (f+1) i out=bP (hX m) f (i+1) (hX m i out):=rfl
   rw[e,i1,e2,e3,show i+(f+1)=i+1+f from by omega]
   simp only[Bool.and_assoc]
  ·show bP (hX m) (f+1) (i+1) (hX m i out)=_
   rw[i2,show i+1+f=i+(f+1)from by omega];rfl
theorem AP (m:List (List Int)) (v:List Int):eS (m++[v])=(eS m&&okC v (cM m))∧cM (m++[v])=k9 (cM m) v:=by
 have hl:(m++[v]).length=m.length+1:=by simp
 obtain⟨s1,s2⟩:=oK (m++[v]) m.length 0 []
 obtain⟨a1,a2⟩:=AO m [v] m.length 0 [] (by omega)
 have e:(m++[v]).getD (0+m.length) []=v:=by
  rw[Nat.zero_add,List.getD_eq_getElem?_getD,List.getElem?_append_right (Nat.le_refl _)];simp
 unfold eS cM
 rw[hl,s1,s2,a1,a2,e]
 refine⟨rfl, ?_⟩
 unfold hX
 rw[e]
theorem D7 {m:List (List Int)} {n:Nat} (h:n<m.length):m.take (n+1)=m.take n++[m.getD n []]:=by
 rw[List.take_add_one,List.getD_eq_getElem?_getD,List.getElem?_eq_getElem h];rfl
def fsG (m:List (List Int)):Nat→Nat→List (List Int)→List Int→(List (List Int)→List Int→Bool)→Bool
 |0,_,t,o,k=>k t o
 |f+1,i,t,o,k=>(okC (m.getD i []) t&&decide ((m.getD i []).length≤1000))&&fLL (k9 t (m.getD i [])) fun t'=>bif Nat.beq t'.length t.length then fsG m f (i+1) t' o k else fsG m f (i+1) t' (o++[(i:Int)]) k
theorem zM (m:List (List Int)) (hm:m.length≤1000) (k:List (List Int)→List Int→Bool): ∀(f i:Nat) (o:List Int),i+f=m.length→eS (m.take i)=true→fsG m f i (cM (m.take i)) o k=true→
  (∀j,i≤j→j<m.length→lR (m.take j) (m.getD j [])=true)∧eS m=true∧k (cM m) (bP (fsS m) f i o)=true
 |0,i,o,h,ht,hg=>by
  have e:m.take i=m:=List.take_of_length_le (by omega)
  rw[e]at ht hg
  exact⟨fun j h1 h2=>by omega,ht,hg⟩
 |f+1,i,o,h,ht,hg=>by
  have hi:i<m.length:=by omega
  simp only[fsG,jE,Bool.and_eq_true,decide_eq_true_eq]at hg
  obtain⟨⟨h1,h2⟩,h3⟩:=hg
  obtain⟨s1,s2⟩:=AP (m.take i) (m.getD i [])
  rw[←D7 hi]at s1 s2
  have ht':eS (m.take (i+1))=true:=by rw[s1,ht,h1];rfl
  have h1':=h1
  simp only[okC,Bool.and_eq_true,decide_eq_true_eq]at h1'
  have hh:lR (m.take i) (m.getD i [])=true:=by
   simp only[lR,Bool.and_eq_true,decide_eq_true_eq]
   exact⟨by rw[List.length_take];omega,ht,h2,h1'.2.1,h1'.2.2.1,h1'.2.2.2⟩
  have e:iU (m.take i) (m.getD i [])=Nat.beq (k9 (cM (m.take i)) (m.getD i [])).length (cM (m.take i)).length:=by
   unfold iU
   rw[Bool.eq_iff_iff,beq_iff_eq,Nat.beq_eq]
   omega
  have go: ∀o',fsG m f (i+1) (k9 (cM (m.take i)) (m.getD i [])) o' k=true→fsS m i o=o'→(∀j,i≤j→j<m.length→lR (m.take j) (m.getD j [])=true)∧eS m=true∧k (cM m) (bP (fsS m) (f+1) i o)=true:=fun o' hg he=>by
   rw[←s2]at hg
   obtain⟨r1,r2,r3⟩:=zM m hm k f (i+1) o' (by omega) ht' hg
   refine⟨fun j j1 j2=> ?_,r2, ?_⟩
   ·by_cases ej:j=i
    ·subst ej;exact hh
    ·exact r1 j (by omega) j2
   ·show k (cM m) (bP (fsS m) f (i+1) (fsS m i o))=true
    rw[he];exact r3
  cases hb:Nat.beq (k9 (cM (m.take i)) (m.getD i [])).length (cM (m.take i)).length with
  |true=>rw[hb]at h3;exact go o h3 (by unfold fsS;rw[e,hb];rfl)
  |false=>rw[hb]at h3;exact go _ h3 (by unfold fsS;rw[e,hb];rfl)
def DU (k:Int) (rows:List (List Int)) (i:Nat):Bool:=fL (byD rows (aL k i)) fun b=>Nat.beq b.length rows.length&&cB (fun q=>y5 (rH (fun j=>b.getD j 0*(rows.getD j []).getD q 0) rows.length-(aL k i).getD q 0)) 4
def okG (k:Int) (c:List Bool):Nat→Nat→List (List Int)→List (List Int)→(List (List Int)→Bool)→Bool
 |0,_,rows,t,K=>K rows
 |f+1,i,rows,t,K=>bif c.getD i false then((decide (rows.length≤1000)&&(okC (aL k i) t&&decide ((aL k i).length≤1000)))&&fLL (k9 t (aL k i)) fun t'=>bif Nat.beq t'.length t.length then DU k rows i&&okG k c f (i+1) rows t K else okG k c f (i+1) (rows++[aL k i]) t' K)else okG k c f (i+1) rows t K
def z9 (k:Int) (c:List Bool):Nat→Nat→List (List Int)→Bool
 |0,_,_=>true
 |f+1,i,rows=>(bif c.getD i false&&iU rows (aL k i)then DU k rows i else true)&&z9 k c f (i+1) (rwT k c i rows)
theorem nW (k:Int) (c:List Bool) (K:List (List Int)→Bool): ∀(f i:Nat) (rows:List (List Int)),eS rows=true→okG k c f i rows (cM rows) K=true→
  A0 k c f i rows=true∧z9 k c f i rows=true∧K (bP (rwT k c) f i rows)=true
 |0,i,rows,ht,h=>⟨rfl,rfl,h⟩
 |f+1,i,rows,ht,h=>by
  simp only[okG,A0,z9]at h⊢
  have er:bP (rwT k c) (f+1) i rows=bP (rwT k c) f (i+1) (rwT k c i rows):=rfl
  rw[er]
  cases hc:c.getD i false with
  |false=>
   rw[hc,cond_false]at h
   have e:rwT k c i rows=rows:=by unfold rwT;rw[hc];rfl
   rw[e]
   simpa using nW k c K f (i+1) rows ht h
  |true=>
   rw[hc,cond_true]at h
   simp only[jE,Bool.and_eq_true,decide_eq_true_eq]at h
   obtain⟨⟨h0,h1,h2⟩,h3⟩:=h
   have h1':=h1
   simp only[okC,Bool.and_eq_true,decide_eq_true_eq]at h1'
   have hh:lR rows (aL k i)=true:=by
    simp only[lR,Bool.and_eq_true,decide_eq_true_eq]
    exact⟨h0,ht,h2,h1'.2.1,h1'.2.2.1,h1'.2.2.2⟩
   have e:iU rows (aL k i)=Nat.beq (k9 (cM rows) (aL k i)).length (cM rows).length:=by
    unfold iU
    rw[Bool.eq_iff_iff,beq_iff_eq,Nat.beq_eq]
    omega
   obtain⟨s1,s2⟩:=AP rows (aL k i)
   cases hb:Nat.beq (k9 (cM rows) (aL k i)).length (cM rows).length with
   |true=>
    rw[hb,cond_true,Bool.and_eq_true]at h3
    have er:rwT k c i rows=rows:=by unfold rwT;rw[hc,e,hb];rfl
    rw[er]
    obtain⟨r1,r2,r3⟩:=nW k c K f (i+1) rows ht h3.2
    refine⟨by simp[hh,r1],by rw[e,hb];simp[h3.1,r2],r3⟩
   |false=>
    rw[hb,cond_false,←s2]at h3
    have er:rwT k c i rows=rows++[aL k i]:=by unfold rwT;rw[hc,e,hb];rfl
    rw[er]
    obtain⟨r1,r2,r3⟩:=nW k c K f (i+1) (rows++[aL k i]) (by rw[s1,ht,h1];rfl) h3
    refine⟨by simp[hh,r1],by rw[e,hb];simp[r2],r3⟩
def EY (k:Int):Nat→Nat→List (List Int)→List Int→(List Int→Bool)→Bool
 |0,_,t,T,K=>K T
 |f+1,i,t,T,K=>bif Nat.ble 4 T.length then K T else fLL (k9 t (aL k i)) fun t'=>bif Nat.beq t'.length t.length then EY k f (i+1) t T K else EY k f (i+1) t' (T++[(i:Int)]) K
theorem p9 (k:Int) (K:List Int→Bool): ∀(f i:Nat) (t:List (List Int)) (T:List Int),EY k f i t T K=true→ ∃X,K (T++X)=true∧(4≤T.length→X=[])
 |0,i,t,T,h=>⟨[],by simpa [EY]using h,fun _=>rfl⟩
 |f+1,i,t,T,h=>by
  simp only[EY,jE]at h
  cases hl:Nat.ble 4 T.length with
  |true=>rw[hl]at h;exact⟨[],by simpa using h,fun _=>rfl⟩
  |false=>
   have hn: ¬4≤T.length:=fun h'=>by rw[Nat.ble_eq_true_of_le h']at hl;cases hl
   rw[hl,cond_false]at h
   cases hb:Nat.beq (k9 t (aL k i)).length t.length with
   |true=>
    rw[hb]at h
    obtain⟨X,h1,h2⟩:=p9 k K f (i+1) t T h
    exact⟨X,h1,h2⟩
   |false=>
    rw[hb]at h
    obtain⟨X,h1,h2⟩:=p9 k K f (i+1) _ _ h
    exact⟨(i:Int)::X,by simpa using h1,fun h'=>absurd h' hn⟩
def dl (i j:Nat):Int:=bif Nat.beq i j then 1 else 0
def z7 (r:List Int):List Int:=bif bet (bD r) 0 3 then []else eE (r.drop 4) 30
def byG:Nat→Nat→List (List Int)→List Int→List Int→List Int→List Int→(List Int→List Int→List Int→List Int→Bool)→Bool
 |0,_,_,a,b,c,d,K=>K a b c d
 |f+1,i,rows,a,b,c,d,K=>match dO (byF rows i) rows.length 0 ()with
  |.inl _=>byG f (i+1) rows a b c d K
  |.inr j=>fLL (byK i j rows) fun rows'=>fL (nlL a (rows'.getD j [])) fun a'=>fL (nlL b (rows'.getD j [])) fun b'=>fL (nlL c (rows'.getD j [])) fun c'=>fL (nlL d (rows'.getD j [])) fun d'=>byG f (i+1) rows' a' b' c' d' K
theorem xP (K:List Int→List Int→List Int→List Int→Bool): ∀(f i:Nat) (rows:List (List Int)) (a b c d:List Int),byG f i rows a b c d K=K (bP byT f i (rows,a)).2 (bP byT f i (rows,b)).2 (bP byT f i (rows,c)).2 (bP byT f i (rows,d)).2
 |0,i,rows,a,b,c,d=>rfl
 |f+1,i,rows,a,b,c,d=>by
  have e: ∀x,bP byT (f+1) i (rows,x)=bP byT f (i+1) (byT i (rows,x)):=fun _=>rfl
  rw[e,e,e,e]
  unfold byG byT
  dsimp only
  cases dO (byF rows i) rows.length 0 ()with
  |inl _=>exact xP K f (i+1) rows a b c d
  |inr j=>simp only[kG,jE];exact xP K f (i+1) _ _ _ _ _
def byN (m:List (List Int)) (K:List (List Int)→Bool):Bool:=
 fLL (bwL m) fun rows=>byG 4 0 rows (unL 0++List.replicate m.length 0) (unL 1++List.replicate m.length 0) (unL 2++List.replicate m.length 0) (unL 3++List.replicate m.length 0) fun a b c d=>
  fL (z7 a) fun a=>fL (z7 b) fun b=>fL (z7 c) fun c=>fL (z7 d) fun d=>K [a,b,c,d]
theorem QB (m:List (List Int)) (K:List (List Int)→Bool):byN m K=K [byD m (unL 0),byD m (unL 1),byD m (unL 2),byD m (unL 3)]:=by
 have e: ∀v,byD m v=z7 (bP byT 4 0 (bwL m,v++List.replicate m.length 0)).2:=fun v=>by unfold byD z7 byE;rfl
 simp only[byN,kG,jE,xP,e]
def LN (k:Int) (T:List Int):Bool:=fLL (rfL k T) fun m=>byN m fun N=>Nat.beq T.length 4&&(aM T&&(cB (fun i=>Nat.beq (N.getD i []).length 4&&(cB (fun j=>y5 (rH (fun q=>(m.getD i []).getD q 0*(N.getD q []).getD j 0) 4-dl i j)) 4&&
 cB (fun q=>y5 (rH (fun j=>(N.getD i []).getD j 0*(m.getD j []).getD q 0) 4-dl i q)) 4)) 4))
def frF (c:List Bool) (fst:List Int):List Int:=bP (frS c fst) fst.length 0 []
def EV (k:Int) (c:List Bool):Bool:=fLL (rwL k c) fun m=>decide (m.length≤1000)&&fsG m m.length 0 [] [] fun t fst=>Nat.beq fst.length t.length&&(Nat.ble fst.length 4&&(dC fst (flg c).length&&fL (frF c fst) fun T=>
 okG k c 8 0 [] [] fun rows=>(rows==rfL k T)&&EY k 8 0 t T fun T'=>fL T' fun T'=>LN k T'))
end
end Go.Proofs.YthapjdpkelihiaaGreat.Am
