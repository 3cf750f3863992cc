/- DERIVED. Pure: shards fit if some numbers have their values. No statement of the program is proved here. -/
import Derived.Test.YthapjdpkelihiaaGreatX08
set_option linter.unusedSimpArgs false
set_option linter.unusedVariables false
set_option linter.unusedSectionVars false
namespace Go.Proofs.YthapjdpkelihiaaGreat.Am
def fI {α:Type} (x:Int) (k:Int→α):α:=match x with
 |.ofNat 0=>k (.ofNat 0)
 |.ofNat (n+1)=>k (.ofNat (Nat.succ n))
 |.negSucc n=>k (.negSucc n)
theorem W7 {α:Type} (x:Int) (k:Int→α):fI x k=k x:=by
 unfold fI;split<;>rfl
def fL {α:Type}:List Int→(List Int→α)→α
 |[],k=>k []
 |x::r,k=>fI x fun x=>fL r fun r=>k (x::r)
theorem jZ {α:Type}: ∀(l:List Int) (k:List Int→α),fL l k=k l
 |[],k=>rfl
 |x::r,k=>by simp only[fL,W7,jZ r]
def fLL {α:Type}:List (List Int)→(List (List Int)→α)→α
 |[],k=>k []
 |x::r,k=>fL x fun x=>fLL r fun r=>k (x::r)
theorem j5 {α:Type}: ∀(l:List (List Int)) (k:List (List Int)→α),fLL l k=k l
 |[],k=>rfl
 |x::r,k=>by simp only[fLL,jZ,j5 r]
abbrev Z:=Fin 31
def zz (x:Int):Z:=⟨(x%31).toNat,by omega⟩
theorem K5 {x y:Int}:zz x=zz y↔x%31=y%31:=by
 unfold zz
 rw[Fin.mk.injEq]
 omega
theorem kN (x y:Int):zz (x+y)=zz x+zz y:=by
 apply Fin.ext
 show((x+y)%31).toNat=((x%31).toNat+(y%31).toNat)%31
 omega
theorem fY (x y:Int):zz (x*y)=zz x*zz y:=by
 apply Fin.ext
 show((x*y)%31).toNat=((x%31).toNat*(y%31).toNat)%31
 have h1:=Int.mul_emod x y 31
 have hx:((x%31).toNat:Int)=x%31:=by omega
 have hy:((y%31).toNat:Int)=y%31:=by omega
 have:(((x%31).toNat*(y%31).toNat:Nat):Int)=(x%31)*(y%31):=by rw[Int.natCast_mul,hx,hy]
 omega
theorem VS (x y:Int):zz (x-y)=zz x-zz y:=by
 have h:zz x=zz (x-y)+zz y:=by rw[←kN];congr 1;omega
 rw[h];grind
theorem mL (x:Int):zz (x%31)=zz x:=K5.2 (by omega)
theorem pQ {x y:Int} (hx:fok x=true) (hy:fok y=true) (h:zz x=zz y):x=y:=by
 have:=K5.1 h
 have h1:=cQ.1 hx
 have h2:=cQ.1 hy
 omega
theorem lC:zz 0=0:=rfl
theorem a47:zz 30= -1:=by decide
def dX (f:Nat→Z):Nat→Z
 |0=>0
 |n+1=>dX f n+f n
theorem dD {f g:Nat→Z}: ∀ {n:Nat},(∀i,i<n→f i=g i)→dX f n=dX g n
 |0,_=>rfl
 |n+1,h=>by simp only[dX];rw[dD fun i hi=>h i (by omega),h n (by omega)]
theorem nY (f g:Nat→Z): ∀n,dX (fun i=>f i+g i) n=dX f n+dX g n
 |0=>by simp only[dX];grind
 |n+1=>by simp only[dX];rw[nY f g n];grind
theorem kL (f:Nat→Z) (c:Z): ∀n,dX (fun i=>f i*c) n=dX f n*c
 |0=>by simp only[dX];grind
 |n+1=>by simp only[dX];rw[kL f c n];grind
def dz (r d:List Int):Z:=zz (r.getD 0 0)*zz (d.getD 0 0)+zz (r.getD 1 0)*zz (d.getD 1 0)+zz (r.getD 2 0)*zz (d.getD 2 0)+zz (r.getD 3 0)*zz (d.getD 3 0)
theorem nZ (n:Nat) (b:Nat→Z) (r:Nat→List Int) (s d:List Int) (h: ∀q,q<4→dX (fun j=>b j*zz ((r j).getD q 0)) n=zz (s.getD q 0)):dX (fun j=>b j*dz (r j) d) n=dz s d:=by
 have e: ∀j,b j*dz (r j) d=b j*zz ((r j).getD 0 0)*zz (d.getD 0 0)+b j*zz ((r j).getD 1 0)*zz (d.getD 1 0)+b j*zz ((r j).getD 2 0)*zz (d.getD 2 0)+b j*zz ((r j).getD 3 0)*zz (d.getD 3 0):=fun j=>by unfold dz;grind
 rw[dD fun j _=>e j,nY,nY,nY,kL,kL,kL,kL,h 0 (by omega),h 1 (by omega),h 2 (by omega),h 3 (by omega)]
 rfl
def r6 (f:Nat→Int):Nat→Int
 |0=>0
 |n+1=>r6 f n+f n
theorem i5 (f:Nat→Int): ∀n,zz (r6 f n)=dX (fun i=>zz (f i)) n
 |0=>rfl
 |n+1=>by simp only[r6,dX,kN,i5 f n]
theorem l8 {s:Nat→Int→Int} {f:Nat→Z} (n:Nat) (h: ∀i x,i<n→zz (s i x)=zz x+f i):zz (bL s n 0 0)=dX f n:=
 bB (step:=s) (fun i x=>zz x=dX f i) n 0 rfl fun i x hi hx=>by rw[h i x hi,hx];rfl
theorem fZ (k:Int) (d:List Int) (a:Int):zz (c8 k d a)=dz (aH k a) d:=by
 simp only[c8,C2,dz,kN,mL,fY,lC]
 grind
theorem g9 (k:Int) (d:List Int) (a:Int):fok (c8 k d a)=true:=bY _
theorem OJ (w v kk:List Int):zz (AG w v kk)=dX (fun j=>zz (kk.getD (j+4) 0)*zz (w.getD (v.getD j 0).toNat 0)) v.length:=
 l8 (s:=NQ w v kk) _ fun i x _=>by simp only[NQ,Nat.mul_one,mL,kN,fY]
theorem y6 (v w:List Int):zz (aQ v w)=dX (fun j=>zz (v.getD j 0)*zz (w.getD j 0)) v.length:=by
 have e: ∀(f i:Nat) (n:Int),q6 v w f i n=bL (fun i n=>(n+v.getD i 0*w.getD i 0)%31) f i n:=by
  intro f
  induction f with
  |zero=>intro i n;rfl
  |succ f ih=>intro i n;exact ih (i+1) _
 unfold aQ
 rw[e]
 exact l8 _ fun i x _=>by simp only[mL,kN,fY]
theorem kX (c:List Bool): ∀(k i:Nat) (x:Int),x∈dY c k i↔ ∃a:Nat,i≤a∧a<i+k∧c.getD a false=true∧x=a
 |0,i,x=>by simp[dY];omega
 |k+1,i,x=>by
  have ih:=kX c k (i+1) x
  simp only[dY]
  cases hc:c.getD i false with
  |true=>
   rw[if_pos rfl,List.mem_cons,ih]
   constructor
   ·rintro(h|⟨a,h1,h2,h3,h4⟩)
    ·exact⟨i,by omega,by omega,hc,h⟩
    ·exact⟨a,by omega,by omega,h3,h4⟩
   ·rintro⟨a,h1,h2,h3,h4⟩
    by_cases e:a=i
    ·subst e;exact .inl h4
    ·exact .inr ⟨a,by omega,by omega,h3,h4⟩
  |false=>
   rw[if_neg (by simp),ih]
   constructor
   ·rintro⟨a,h1,h2,h3,h4⟩;exact⟨a,by omega,by omega,h3,h4⟩
   ·rintro⟨a,h1,h2,h3,h4⟩
    have:a≠i:=by intro e;subst e;rw[hc]at h3;cases h3
    exact⟨a,by omega,by omega,h3,h4⟩
theorem DM {c:List Bool} (hc:c.length=8) {a:Nat} (ha:a<8) (h:c.getD a false=true): ∃i,i<(flg c).length∧(flg c).getD i 0=(a:Int):=by
 have:(a:Int)∈flg c:=(kX c c.length 0 a).2 ⟨a,by omega,by omega,h,rfl⟩
 obtain⟨i,hi⟩:=List.getElem?_of_mem this
 exact⟨i,(List.getElem?_eq_some_iff.1 hi).1,by rw[List.getD_eq_getElem?_getD,hi];rfl⟩
theorem rA {c:List Bool} (hc:c.length=8) {i:Nat} (hi:i<(flg c).length): ∃a:Nat,a<8∧c.getD a false=true∧(flg c).getD i 0=(a:Int):=by
 have:(flg c).getD i 0∈flg c:=by
  rw[List.getD_eq_getElem?_getD,List.getElem?_eq_getElem hi];exact List.getElem_mem hi
 obtain⟨a,h1,h2,h3,h4⟩:=(kX c c.length 0 _).1 this
 exact⟨a,by omega,h3,h4⟩
def Fit (k:Int) (w:List Int) (c:List Bool) (d:List Int):Prop:= ∀a:Nat,a<8→c.getD a false=true→c8 k d a=w.getD a 0
theorem k8 {k:Int} {w:List Int} {c:List Bool} (hc:c.length=8):cE k w (flg c)=true↔Fit k w c (dN k w (flg c)):=by
 unfold cE
 rw[bX]
 constructor
 ·intro h a ha hca
  obtain⟨i,hi,e⟩:=DM hc ha hca
  have:=h i (by omega) (by omega)
  unfold xI at this
  rw[e,Int.toNat_natCast]at this
  simpa using this
 ·intro h i _ hi
  obtain⟨a,ha,hca,e⟩:=rA hc (i:=i) (by omega)
  unfold xI
  rw[e,Int.toNat_natCast,h a ha hca]
  simp
def xP (x:Int):Bool:=x%31==0
def DF (k:Int) (v ys:List Int) (r:Nat):Bool:=c7 (fun i=>c7 (fun q=>xP (r6 (fun j=>ys.getD (i*12+(j+4)) 0*(aH k (v.getD j 0)).getD q 0) v.length-ys.getD (i*12+q) 0)) 4) r
def DG (zs:List Int) (r:Nat):Bool:=c7 (fun i=>c7 (fun j=> !(ld5 zs i==ld5 zs j)) i) r
def DH (k:Int) (c:List Bool) (zs:List Int) (r:Nat):Bool:=c7 (fun a=> !c.getD a false||c7 (fun q=>xP (r6 (fun i=>(aH k a).getD (ld5 zs i).toNat 0*zs.getD (i*5+q) 0) r-(aH k a).getD q 0)) 4) 8
def vZ (xs:List Int):Nat→Nat→List Int→List Int→(List Int→List Int→Bool)→Bool
 |0,_,ys,ps,k=>k ys ps
 |f+1,i,ys,ps,k=>fL (KK xs ys ps.length i) fun kk=>bif decide (ld4 kk<0)then vZ xs f (i+1) ys ps k else fL (oneK kk) fun o=>vZ xs f (i+1) (ys++o) (ps++[(i:Int)]) k
theorem nW (xs:List Int): ∀(f i:Nat) (ys ps:List Int) (k:List Int→List Int→Bool),vZ xs f i ys ps k=k (eX xs f i (ys,ps)).1 (eX xs f i (ys,ps)).2
 |0,i,ys,ps,k=>rfl
 |f+1,i,ys,ps,k=>by
  simp only[vZ,jZ,eX]
  cases decide (ld4 (KK xs ys ps.length i)<0)
  ·simp only[cond_false];exact nW xs f (i+1) _ _ k
  ·simp only[cond_true];exact nW xs f (i+1) _ _ k
def N6 (n:Nat):Nat→Nat→List Int→(List Int→Bool)→Bool
 |0,_,zs,k=>k zs
 |f+1,i,zs,k=>fL (lF n i zs) fun zs=>N6 n f (i+1) zs k
theorem DY (n:Nat): ∀(f i:Nat) (zs:List Int) (k:List Int→Bool),N6 n f i zs k=k (bL (lF n) f i zs)
 |0,i,zs,k=>rfl
 |f+1,i,zs,k=>by simp only[N6,jZ];exact DY n f (i+1) _ k
def C1 (k:Int) (c:List Bool):Bool:=
 fL (cC k (flg c)) fun xs=>vZ xs (flg c).length 0 [] [] fun ys ps=>fL (lT z8 (flg c) ys ps.length) fun ts=>N6 ps.length ps.length 0 ts fun zs=>DF k (flg c) ys ps.length&&(DG zs ps.length&&DH k c zs ps.length)
theorem HB {k:Int} {c:List Bool} (h:C1 k c=true):DF k (flg c) (spK k (flg c)).1 (spK k (flg c)).2.length=true∧DG (eH k z8 (flg c)) (spK k (flg c)).2.length=true∧DH k c (eH k z8 (flg c)) (spK k (flg c)).2.length=true:=by
 simp only[C1,jZ,nW,DY,Bool.and_eq_true,rpS]at h
 exact h
theorem H0 {P:Int→List Bool→Prop} {f:Int→List Bool→Bool} (hf: ∀k c,f k c=true→P k c) (h1:c7 (fun m=>f 1 (cZ m)) 128=true) (h2:c7 (fun m=>f 1 (cZ (m+128))) 128=true) (h3:c7 (fun m=>f 2 (cZ m)) 128=true) (h4:c7 (fun m=>f 2 (cZ (m+128))) 128=true)
  {k:Int} {c:List Bool} (hk:bet k 1 2=true) (hc:c.length=8):P k c:=by
 obtain⟨m,hm,rfl⟩:=nJ c hc
 refine hf _ _ ?_
 rcases two hk with rfl|rfl
 ·by_cases h:m<128
  ·exact aV h1 m h
  ·have:=aV h2 (m-128) (by omega)
   rwa[show m-128+128=m from by omega]at this
 ·by_cases h:m<128
  ·exact aV h3 m h
  ·have:=aV h4 (m-128) (by omega)
   rwa[show m-128+128=m from by omega]at this
theorem kY {x y:Int} (h:xP (x-y)=true):zz x=zz y:=by
 unfold xP at h
 rw[K5]
 simp only[beq_iff_eq]at h
 omega
end Go.Proofs.YthapjdpkelihiaaGreat.Am
