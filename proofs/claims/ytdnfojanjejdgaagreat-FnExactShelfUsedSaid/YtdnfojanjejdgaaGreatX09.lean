/- DERIVED. Pure: shards fit if some numbers have their values. No statement of the program is proved here. -/
import Derived.Test.YtdnfojanjejdgaaGreatX08
set_option linter.unusedSimpArgs false
set_option linter.unusedVariables false
set_option linter.unusedSectionVars false
namespace Go.Proofs.YtdnfojanjejdgaaGreat.Am
def fI {α:Type} (x:Int) (k:Int→α):α:=match x with
 |.ofNat 0=>k (.ofNat 0)
 |.ofNat (n+1)=>k (.ofNat (Nat.succ n))
 |.negSucc n=>k (.negSucc n)
theorem XB {α:Type} (x:Int) (k:Int→α):fI x k=k x:=by
 unfold fI;split<;>rfl
def fL {α:Type}:List Int→(List Int→α)→α
 |[],k=>k []
 |x::r,k=>fI x fun x=>fL r fun r=>k (x::r)
theorem mV {α:Type}: ∀(l:List Int) (k:List Int→α),fL l k=k l
 |[],k=>rfl
 |x::r,k=>by simp only[fL,XB,mV r]
def fLL {α:Type}:List (List Int)→(List (List Int)→α)→α
 |[],k=>k []
 |x::r,k=>fL x fun x=>fLL r fun r=>k (x::r)
theorem k8 {α:Type}: ∀(l:List (List Int)) (k:List (List Int)→α),fLL l k=k l
 |[],k=>rfl
 |x::r,k=>by simp only[fLL,mV,k8 r]
abbrev Z:=Fin 31
def zz (x:Int):Z:=⟨(x%31).toNat,by omega⟩
theorem L5 {x y:Int}:zz x=zz y↔x%31=y%31:=by
 unfold zz
 rw[Fin.mk.injEq]
 omega
theorem mL (x y:Int):zz (x+y)=zz x+zz y:=by
 apply Fin.ext
 show((x+y)%31).toNat=((x%31).toNat+(y%31).toNat)%31
 omega
theorem gS (x y:Int):zz (x*y)=zz x*zz y:=by
 apply Fin.ext
 show((x*y)%31).toNat=((x%31).toNat*(y%31).toNat)%31
 have h1:=Int.mul_emod x y 31
 have hx:((x%31).toNat:Int)=x%31:=by omega
 have hy:((y%31).toNat:Int)=y%31:=by omega
 have:(((x%31).toNat*(y%31).toNat:Nat):Int)=(x%31)*(y%31):=by rw[Int.natCast_mul,hx,hy]
 omega
theorem WN (x y:Int):zz (x-y)=zz x-zz y:=by
 have h:zz x=zz (x-y)+zz y:=by rw[←mL];congr 1;omega
 rw[h];grind
theorem uN (x:Int):zz (x%31)=zz x:=L5.2 (by omega)
theorem uM {x y:Int} (hx:fok x=true) (hy:fok y=true) (h:zz x=zz y):x=y:=by
 have:=L5.1 h
 have h1:=eK.1 hx
 have h2:=eK.1 hy
 omega
theorem l9:zz 0=0:=rfl
theorem a5G:zz 30= -1:=by decide
def dZ (f:Nat→Z):Nat→Z
 |0=>0
 |n+1=>dZ f n+f n
theorem dE {f g:Nat→Z}: ∀ {n:Nat},(∀i,i<n→f i=g i)→dZ f n=dZ g n
 |0,_=>rfl
 |n+1,h=>by simp only[dZ];rw[dE fun i hi=>h i (by omega),h n (by omega)]
theorem nT (f g:Nat→Z): ∀n,dZ (fun i=>f i+g i) n=dZ f n+dZ g n
 |0=>by simp only[dZ];grind
 |n+1=>by simp only[dZ];rw[nT f g n];grind
theorem kL (f:Nat→Z) (c:Z): ∀n,dZ (fun i=>f i*c) n=dZ f n*c
 |0=>by simp only[dZ];grind
 |n+1=>by simp only[dZ];rw[kL f c n];grind
def dz (r d:List Int):Z:=zz (r.getD 0 0)*zz (d.getD 0 0)+zz (r.getD 1 0)*zz (d.getD 1 0)+zz (r.getD 2 0)*zz (d.getD 2 0)+zz (r.getD 3 0)*zz (d.getD 3 0)
theorem rI (n:Nat) (b:Nat→Z) (r:Nat→List Int) (s d:List Int) (h: ∀q,q<4→dZ (fun j=>b j*zz ((r j).getD q 0)) n=zz (s.getD q 0)):dZ (fun j=>b j*dz (r j) d) n=dz s d:=by
 have e: ∀j,b j*dz (r j) d=b j*zz ((r j).getD 0 0)*zz (d.getD 0 0)+b j*zz ((r j).getD 1 0)*zz (d.getD 1 0)+b j*zz ((r j).getD 2 0)*zz (d.getD 2 0)+b j*zz ((r j).getD 3 0)*zz (d.getD 3 0):=fun j=>by unfold dz;grind
 rw[dE fun j _=>e j,nT,nT,nT,kL,kL,kL,kL,h 0 (by omega),h 1 (by omega),h 2 (by omega),h 3 (by omega)]
 rfl
def vB (f:Nat→Int):Nat→Int
 |0=>0
 |n+1=>vB f n+f n
theorem jB (f:Nat→Int): ∀n,zz (vB f n)=dZ (fun i=>zz (f i)) n
 |0=>rfl
 |n+1=>by simp only[vB,dZ,mL,jB f n]
theorem p9 {s:Nat→Int→Int} {f:Nat→Z} (n:Nat) (h: ∀i x,i<n→zz (s i x)=zz x+f i):zz (bH s n 0 0)=dZ f n:=
 aY (step:=s) (fun i x=>zz x=dZ f i) n 0 rfl fun i x hi hx=>by rw[h i x hi,hx];rfl
theorem hZ (k:Int) (d:List Int) (a:Int):zz (cO k d a)=dz (aH k a) d:=by
 simp only[cO,CS,dz,mL,uN,gS,l9]
 grind
theorem k6 (k:Int) (d:List Int) (a:Int):fok (cO k d a)=true:=c9 _
theorem P8 (w v kk:List Int):zz (BA w v kk)=dZ (fun j=>zz (kk.getD (j+4) 0)*zz (w.getD (v.getD j 0).toNat 0)) v.length:=
 p9 (s:=OL w v kk) _ fun i x _=>by simp only[OL,Nat.mul_one,uN,mL,gS]
theorem yI (v w:List Int):zz (aP v w)=dZ (fun j=>zz (v.getD j 0)*zz (w.getD j 0)) v.length:=by
 have e: ∀(f i:Nat) (n:Int),pU v w f i n=bH (fun i n=>(n+v.getD i 0*w.getD i 0)%31) f i n:=by
  intro f
  induction f with
  |zero=>intro i n;rfl
  |succ f ih=>intro i n;exact ih (i+1) _
 unfold aP
 rw[e]
 exact p9 _ fun i x _=>by simp only[uN,mL,gS]
theorem kW (c:List Bool): ∀(k i:Nat) (x:Int),x∈eY c k i↔ ∃a:Nat,i≤a∧a<i+k∧c.getD a false=true∧x=a
 |0,i,x=>by simp[eY];omega
 |k+1,i,x=>by
  have ih:=kW c k (i+1) x
  simp only[eY]
  cases hc:c.getD i false with
  |true=>
   rw[if_pos rfl,List.mem_cons,ih]
   constructor
   ·rintro(h|⟨a,h1,h2,h3,h4⟩)
    ·exact⟨i,by omega,by omega,hc,h⟩
    ·exact⟨a,by omega,by omega,h3,h4⟩
   ·rintro⟨a,h1,h2,h3,h4⟩
    by_cases e:a=i
    ·subst e;exact .inl h4
    ·exact .inr ⟨a,by omega,by omega,h3,h4⟩
  |false=>
   rw[if_neg (by simp),ih]
   constructor
   ·rintro⟨a,h1,h2,h3,h4⟩;exact⟨a,by omega,by omega,h3,h4⟩
   ·rintro⟨a,h1,h2,h3,h4⟩
    have:a≠i:=by intro e;subst e;rw[hc]at h3;cases h3
    exact⟨a,by omega,by omega,h3,h4⟩
theorem E9 {c:List Bool} (hc:c.length=8) {a:Nat} (ha:a<8) (h:c.getD a false=true): ∃i,i<(flg c).length∧(flg c).getD i 0=(a:Int):=by
 have:(a:Int)∈flg c:=(kW c c.length 0 a).2 ⟨a,by omega,by omega,h,rfl⟩
 obtain⟨i,hi⟩:=List.getElem?_of_mem this
 exact⟨i,(List.getElem?_eq_some_iff.1 hi).1,by rw[List.getD_eq_getElem?_getD,hi];rfl⟩
theorem r9 {c:List Bool} (hc:c.length=8) {i:Nat} (hi:i<(flg c).length): ∃a:Nat,a<8∧c.getD a false=true∧(flg c).getD i 0=(a:Int):=by
 have:(flg c).getD i 0∈flg c:=by
  rw[List.getD_eq_getElem?_getD,List.getElem?_eq_getElem hi];exact List.getElem_mem hi
 obtain⟨a,h1,h2,h3,h4⟩:=(kW c c.length 0 _).1 this
 exact⟨a,by omega,h3,h4⟩
def Fit (k:Int) (w:List Int) (c:List Bool) (d:List Int):Prop:= ∀a:Nat,a<8→c.getD a false=true→cO k d a=w.getD a 0
theorem mY {k:Int} {w:List Int} {c:List Bool} (hc:c.length=8):cE k w (flg c)=true↔Fit k w c (dL k w (flg c)):=by
 unfold cE
 rw[cC]
 constructor
 ·intro h a ha hca
  obtain⟨i,hi,e⟩:=E9 hc ha hca
  have:=h i (by omega) (by omega)
  unfold xW at this
  rw[e,Int.toNat_natCast]at this
  simpa using this
 ·intro h i _ hi
  obtain⟨a,ha,hca,e⟩:=r9 hc (i:=i) (by omega)
  unfold xW
  rw[e,Int.toNat_natCast,h a ha hca]
  simp
def D4 (x:Int):Bool:=x%31==0
def E2 (k:Int) (v ys:List Int) (r:Nat):Bool:=cN (fun i=>cN (fun q=>D4 (vB (fun j=>ys.getD (i*12+(j+4)) 0*(aH k (v.getD j 0)).getD q 0) v.length-ys.getD (i*12+q) 0)) 4) r
def E3 (zs:List Int) (r:Nat):Bool:=cN (fun i=>cN (fun j=> !(ld5 zs i==ld5 zs j)) i) r
def E4 (k:Int) (c:List Bool) (zs:List Int) (r:Nat):Bool:=cN (fun a=> !c.getD a false||cN (fun q=>D4 (vB (fun i=>(aH k a).getD (ld5 zs i).toNat 0*zs.getD (i*5+q) 0) r-(aH k a).getD q 0)) 4) 8
def AX (xs:List Int):Nat→Nat→List Int→List Int→(List Int→List Int→Bool)→Bool
 |0,_,ys,ps,k=>k ys ps
 |f+1,i,ys,ps,k=>fL (KK xs ys ps.length i) fun kk=>bif decide (ld4 kk<0)then AX xs f (i+1) ys ps k else fL (nK kk) fun o=>AX xs f (i+1) (ys++o) (ps++[(i:Int)]) k
theorem uA (xs:List Int): ∀(f i:Nat) (ys ps:List Int) (k:List Int→List Int→Bool),AX xs f i ys ps k=k (fO xs f i (ys,ps)).1 (fO xs f i (ys,ps)).2
 |0,i,ys,ps,k=>rfl
 |f+1,i,ys,ps,k=>by
  simp only[AX,mV,fO]
  cases decide (ld4 (KK xs ys ps.length i)<0)
  ·simp only[cond_false];exact uA xs f (i+1) _ _ k
  ·simp only[cond_true];exact uA xs f (i+1) _ _ k
def O1 (n:Nat):Nat→Nat→List Int→(List Int→Bool)→Bool
 |0,_,zs,k=>k zs
 |f+1,i,zs,k=>fL (lE n i zs) fun zs=>O1 n f (i+1) zs k
theorem EG (n:Nat): ∀(f i:Nat) (zs:List Int) (k:List Int→Bool),O1 n f i zs k=k (bH (lE n) f i zs)
 |0,i,zs,k=>rfl
 |f+1,i,zs,k=>by simp only[O1,mV];exact EG n f (i+1) _ k
def CP (k:Int) (c:List Bool):Bool:=
 fL (fY k (flg c)) fun xs=>AX xs (flg c).length 0 [] [] fun ys ps=>fL (lS z8 (flg c) ys ps.length) fun ts=>O1 ps.length ps.length 0 ts fun zs=>E2 k (flg c) ys ps.length&&(E3 zs ps.length&&E4 k c zs ps.length)
theorem J8 {k:Int} {c:List Bool} (h:CP k c=true):E2 k (flg c) (spK k (flg c)).1 (spK k (flg c)).2.length=true∧E3 (eE k z8 (flg c)) (spK k (flg c)).2.length=true∧E4 k c (eE k z8 (flg c)) (spK k (flg c)).2.length=true:=by
 simp only[CP,mV,uA,EG,Bool.and_eq_true,rpS]at h
 exact h
theorem HX {P:Int→List Bool→Prop} {f:Int→List Bool→Bool} (hf: ∀k c,f k c=true→P k c) (h1:cN (fun m=>f 1 (eR m)) 128=true) (h2:cN (fun m=>f 1 (eR (m+128))) 128=true) (h3:cN (fun m=>f 2 (eR m)) 128=true) (h4:cN (fun m=>f 2 (eR (m+128))) 128=true)
  {k:Int} {c:List Bool} (hk:bet k 1 2=true) (hc:c.length=8):P k c:=by
 obtain⟨m,hm,rfl⟩:=tG c hc
 refine hf _ _ ?_
 rcases two hk with rfl|rfl
 ·by_cases h:m<128
  ·exact aX h1 m h
  ·have:=aX h2 (m-128) (by omega)
   rwa[show m-128+128=m from by omega]at this
 ·by_cases h:m<128
  ·exact aX h3 m h
  ·have:=aX h4 (m-128) (by omega)
   rwa[show m-128+128=m from by omega]at this
theorem nD {x y:Int} (h:D4 (x-y)=true):zz x=zz y:=by
 unfold D4 at h
 rw[L5]
 simp only[beq_iff_eq]at h
 omega
end Go.Proofs.YtdnfojanjejdgaaGreat.Am
