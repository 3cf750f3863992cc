/- DERIVED. Pure: shards fit if some numbers have their values. No statement of the program is proved here. -/
import Derived.Test.YtdnfojanjejdgaaGreatX07
set_option linter.unusedSimpArgs false
set_option linter.unusedVariables false
set_option linter.unusedSectionVars false
set_option linter.defProp false
namespace Go.Proofs.YtdnfojanjejdgaaGreat.Am
def fI {α:Type} (x:Int) (k:Int→α):α:=match x with
 |.ofNat 0=>k (.ofNat 0)
 |.ofNat (n+1)=>k (.ofNat (Nat.succ n))
 |.negSucc n=>k (.negSucc n)
theorem a09 {α:Type} (x:Int) (k:Int→α):fI x k=k x:=by
 unfold fI;split<;>rfl
def fL {α:Type}:List Int→(List Int→α)→α
 |[],k=>k []
 |x::r,k=>fI x fun x=>fL r fun r=>k (x::r)
theorem n7 {α:Type}: ∀(l:List Int) (k:List Int→α),fL l k=k l
 |[],k=>rfl
 |x::r,k=>by simp only[fL,a09,n7 r]
def fLL {α:Type}:List (List Int)→(List (List Int)→α)→α
 |[],k=>k []
 |x::r,k=>fL x fun x=>fLL r fun r=>k (x::r)
theorem k8 {α:Type}: ∀(l:List (List Int)) (k:List (List Int)→α),fLL l k=k l
 |[],k=>rfl
 |x::r,k=>by simp only[fLL,n7,k8 r]
abbrev Z:=Fin 31
def zz (x:Int):Z:=⟨(x%31).toNat,by omega⟩
theorem NS {x y:Int}:zz x=zz y↔x%31=y%31:=by
 unfold zz
 rw[Fin.mk.injEq]
 omega
theorem mT (x y:Int):zz (x+y)=zz x+zz y:=by
 apply Fin.ext
 show((x+y)%31).toNat=((x%31).toNat+(y%31).toNat)%31
 omega
theorem gY (x y:Int):zz (x*y)=zz x*zz y:=by
 apply Fin.ext
 show((x*y)%31).toNat=((x%31).toNat*(y%31).toNat)%31
 have h1:=Int.mul_emod x y 31
 have hx:((x%31).toNat:Int)=x%31:=by omega
 have hy:((y%31).toNat:Int)=y%31:=by omega
 have:(((x%31).toNat*(y%31).toNat:Nat):Int)=(x%31)*(y%31):=by rw[Int.natCast_mul,hx,hy]
 omega
theorem ZJ (x y:Int):zz (x-y)=zz x-zz y:=by
 have h:zz x=zz (x-y)+zz y:=by rw[←mT];congr 1;omega
 rw[h];grind
theorem vI (x:Int):zz (x%31)=zz x:=NS.2 (by omega)
theorem vH {x y:Int} (hx:fok x=true) (hy:fok y=true) (h:zz x=zz y):x=y:=by
 have:=NS.1 h
 have h1:=eL.1 hx
 have h2:=eL.1 hy
 omega
theorem l9:zz 0=0:=rfl
theorem a8F:zz 30= -1:=by decide
def eB (f:Nat→Z):Nat→Z
 |0=>0
 |n+1=>eB f n+f n
theorem dH {f g:Nat→Z}: ∀ {n:Nat},(∀i,i<n→f i=g i)→eB f n=eB g n
 |0,_=>rfl
 |n+1,h=>by simp only[eB];rw[dH fun i hi=>h i (by omega),h n (by omega)]
theorem o9 (f g:Nat→Z): ∀n,eB (fun i=>f i+g i) n=eB f n+eB g n
 |0=>by simp only[eB];grind
 |n+1=>by simp only[eB];rw[o9 f g n];grind
theorem kL (f:Nat→Z) (c:Z): ∀n,eB (fun i=>f i*c) n=eB f n*c
 |0=>by simp only[eB];grind
 |n+1=>by simp only[eB];rw[kL f c n];grind
def dz (r d:List Int):Z:=zz (r.getD 0 0)*zz (d.getD 0 0)+zz (r.getD 1 0)*zz (d.getD 1 0)+zz (r.getD 2 0)*zz (d.getD 2 0)+zz (r.getD 3 0)*zz (d.getD 3 0)
theorem rX (n:Nat) (b:Nat→Z) (r:Nat→List Int) (s d:List Int) (h: ∀q,q<4→eB (fun j=>b j*zz ((r j).getD q 0)) n=zz (s.getD q 0)):eB (fun j=>b j*dz (r j) d) n=dz s d:=by
 have e: ∀j,b j*dz (r j) d=b j*zz ((r j).getD 0 0)*zz (d.getD 0 0)+b j*zz ((r j).getD 1 0)*zz (d.getD 1 0)+b j*zz ((r j).getD 2 0)*zz (d.getD 2 0)+b j*zz ((r j).getD 3 0)*zz (d.getD 3 0):=fun j=>by unfold dz;grind
 rw[dH fun j _=>e j,o9,o9,o9,kL,kL,kL,kL,h 0 (by omega),h 1 (by omega),h 2 (by omega),h 3 (by omega)]
 rfl
def vZ (f:Nat→Int):Nat→Int
 |0=>0
 |n+1=>vZ f n+f n
theorem jG (f:Nat→Int): ∀n,zz (vZ f n)=eB (fun i=>zz (f i)) n
 |0=>rfl
 |n+1=>by simp only[vZ,eB,mT,jG f n]
theorem pH {s:Nat→Int→Int} {f:Nat→Z} (n:Nat) (h: ∀i x,i<n→zz (s i x)=zz x+f i):zz (bI s n 0 0)=eB f n:=
 aY (step:=s) (fun i x=>zz x=eB f i) n 0 rfl fun i x hi hx=>by rw[h i x hi,hx];rfl
theorem i8 (k:Int) (d:List Int) (a:Int):zz (dS k d a)=dz (bH k a) d:=by
 simp only[dS,EB,dz,mT,vI,gY,l9]
 grind
theorem k6 (k:Int) (d:List Int) (a:Int):fok (dS k d a)=true:=cB _
theorem S3 (w v kk:List Int):zz (CL w v kk)=eB (fun j=>zz (kk.getD (j+4) 0)*zz (w.getD (v.getD j 0).toNat 0)) v.length:=
 pH (s:=RB w v kk) _ fun i x _=>by simp only[RB,Nat.mul_one,vI,mT,gY]
theorem zY (v w:List Int):zz (dL v w)=eB (fun j=>zz (v.getD j 0)*zz (w.getD j 0)) v.length:=by
 have e: ∀(f i:Nat) (n:Int),qE v w f i n=bI (fun i n=>(n+v.getD i 0*w.getD i 0)%31) f i n:=by
  intro f
  induction f with
  |zero=>intro i n;rfl
  |succ f ih=>intro i n;exact ih (i+1) _
 unfold dL
 rw[e]
 exact pH _ fun i x _=>by simp only[vI,mT,gY]
theorem kW (c:List Bool): ∀(k i:Nat) (x:Int),x∈f0 c k i↔ ∃a:Nat,i≤a∧a<i+k∧c.getD a false=true∧x=a
 |0,i,x=>by simp[f0];omega
 |k+1,i,x=>by
  have ih:=kW c k (i+1) x
  simp only[f0]
  cases hc:c.getD i false with
  |true=>
   rw[if_pos rfl,List.mem_cons,ih]
   constructor
   ·rintro(h|⟨a,h1,h2,h3,h4⟩)
    ·exact⟨i,by omega,by omega,hc,h⟩
    ·exact⟨a,by omega,by omega,h3,h4⟩
   ·rintro⟨a,h1,h2,h3,h4⟩
    by_cases e:a=i
    ·subst e;exact .inl h4
    ·exact .inr ⟨a,by omega,by omega,h3,h4⟩
  |false=>
   rw[if_neg (by simp),ih]
   constructor
   ·rintro⟨a,h1,h2,h3,h4⟩;exact⟨a,by omega,by omega,h3,h4⟩
   ·rintro⟨a,h1,h2,h3,h4⟩
    have:a≠i:=by intro e;subst e;rw[hc]at h3;cases h3
    exact⟨a,by omega,by omega,h3,h4⟩
theorem GB {c:List Bool} (hc:c.length=8) {a:Nat} (ha:a<8) (h:c.getD a false=true): ∃i,i<(flg c).length∧(flg c).getD i 0=(a:Int):=by
 have:(a:Int)∈flg c:=(kW c c.length 0 a).2 ⟨a,by omega,by omega,h,rfl⟩
 obtain⟨i,hi⟩:=List.getElem?_of_mem this
 exact⟨i,(List.getElem?_eq_some_iff.1 hi).1,by rw[List.getD_eq_getElem?_getD,hi];rfl⟩
theorem rP {c:List Bool} (hc:c.length=8) {i:Nat} (hi:i<(flg c).length): ∃a:Nat,a<8∧c.getD a false=true∧(flg c).getD i 0=(a:Int):=by
 have:(flg c).getD i 0∈flg c:=by
  rw[List.getD_eq_getElem?_getD,List.getElem?_eq_getElem hi];exact List.getElem_mem hi
 obtain⟨a,h1,h2,h3,h4⟩:=(kW c c.length 0 _).1 this
 exact⟨a,by omega,h3,h4⟩
def Fit (k:Int) (w:List Int) (c:List Bool) (d:List Int):Prop:= ∀a:Nat,a<8→c.getD a false=true→dS k d a=w.getD a 0
theorem n8 {k:Int} {w:List Int} {c:List Bool} (hc:c.length=8):cH k w (flg c)=true↔Fit k w c (eR k w (flg c)):=by
 unfold cH
 rw[cF]
 constructor
 ·intro h a ha hca
  obtain⟨i,hi,e⟩:=GB hc ha hca
  have:=h i (by omega) (by omega)
  unfold yN at this
  rw[e,Int.toNat_natCast]at this
  simpa using this
 ·intro h i _ hi
  obtain⟨a,ha,hca,e⟩:=rP hc (i:=i) (by omega)
  unfold yN
  rw[e,Int.toNat_natCast,h a ha hca]
  simp
def EP (x:Int):Bool:=x%31==0
def G4 (k:Int) (v ys:List Int) (r:Nat):Bool:=cN (fun i=>cN (fun q=>EP (vZ (fun j=>ys.getD (i*12+(j+4)) 0*(bH k (v.getD j 0)).getD q 0) v.length-ys.getD (i*12+q) 0)) 4) r
def G5 (zs:List Int) (r:Nat):Bool:=cN (fun i=>cN (fun j=> !(ld5 zs i==ld5 zs j)) i) r
def G6 (k:Int) (c:List Bool) (zs:List Int) (r:Nat):Bool:=cN (fun a=> !c.getD a false||cN (fun q=>EP (vZ (fun i=>(bH k a).getD (ld5 zs i).toNat 0*zs.getD (i*5+q) 0) r-(bH k a).getD q 0)) 4) 8
def C7 (xs:List Int):Nat→Nat→List Int→List Int→(List Int→List Int→Bool)→Bool
 |0,_,ys,ps,k=>k ys ps
 |f+1,i,ys,ps,k=>fL (KK xs ys ps.length i) fun kk=>bif decide (ld4 kk<0)then C7 xs f (i+1) ys ps k else fL (nP kk) fun o=>C7 xs f (i+1) (ys++o) (ps++[(i:Int)]) k
theorem uZ (xs:List Int): ∀(f i:Nat) (ys ps:List Int) (k:List Int→List Int→Bool),C7 xs f i ys ps k=k (fT xs f i (ys,ps)).1 (fT xs f i (ys,ps)).2
 |0,i,ys,ps,k=>rfl
 |f+1,i,ys,ps,k=>by
  simp only[C7,n7,fT]
  cases decide (ld4 (KK xs ys ps.length i)<0)
  ·simp only[cond_false];exact uZ xs f (i+1) _ _ k
  ·simp only[cond_true];exact uZ xs f (i+1) _ _ k
def QN (n:Nat):Nat→Nat→List Int→(List Int→Bool)→Bool
 |0,_,zs,k=>k zs
 |f+1,i,zs,k=>fL (lG n i zs) fun zs=>QN n f (i+1) zs k
theorem GQ (n:Nat): ∀(f i:Nat) (zs:List Int) (k:List Int→Bool),QN n f i zs k=k (bI (lG n) f i zs)
 |0,i,zs,k=>rfl
 |f+1,i,zs,k=>by simp only[QN,n7];exact GQ n f (i+1) _ k
def E9 (k:Int) (c:List Bool):Bool:=
 fL (gC k (flg c)) fun xs=>C7 xs (flg c).length 0 [] [] fun ys ps=>fL (lX z8 (flg c) ys ps.length) fun ts=>QN ps.length ps.length 0 ts fun zs=>G4 k (flg c) ys ps.length&&(G5 zs ps.length&&G6 k c zs ps.length)
theorem LN {k:Int} {c:List Bool} (h:E9 k c=true):G4 k (flg c) (spK k (flg c)).1 (spK k (flg c)).2.length=true∧G5 (eF k z8 (flg c)) (spK k (flg c)).2.length=true∧G6 k c (eF k z8 (flg c)) (spK k (flg c)).2.length=true:=by
 simp only[E9,n7,uZ,GQ,Bool.and_eq_true,rpS]at h
 exact h
theorem LB {P:Int→List Bool→Prop} {f:Int→List Bool→Bool} (hf: ∀k c,f k c=true→P k c) (h1:cN (fun m=>f 1 (eQ m)) 128=true) (h2:cN (fun m=>f 1 (eQ (m+128))) 128=true) (h3:cN (fun m=>f 2 (eQ m)) 128=true) (h4:cN (fun m=>f 2 (eQ (m+128))) 128=true)
  {k:Int} {c:List Bool} (hk:bet k 1 2=true) (hc:c.length=8):P k c:=by
 obtain⟨m,hm,rfl⟩:=u6 c hc
 refine hf _ _ ?_
 rcases two hk with rfl|rfl
 ·by_cases h:m<128
  ·exact aX h1 m h
  ·have:=aX h2 (m-128) (by omega)
   rwa[show m-128+128=m from by omega]at this
 ·by_cases h:m<128
  ·exact aX h3 m h
  ·have:=aX h4 (m-128) (by omega)
   rwa[show m-128+128=m from by omega]at this
theorem nJ {x y:Int} (h:EP (x-y)=true):zz x=zz y:=by
 unfold EP at h
 rw[NS]
 simp only[beq_iff_eq]at h
 omega
end Go.Proofs.YtdnfojanjejdgaaGreat.Am
