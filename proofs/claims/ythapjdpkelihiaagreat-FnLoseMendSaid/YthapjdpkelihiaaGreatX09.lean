/- DERIVED. Pure: shards fit if some numbers have their values. No statement of the program is proved here. -/
import Derived.Test.YthapjdpkelihiaaGreatX08
set_option linter.unusedSimpArgs false
set_option linter.unusedVariables false
set_option linter.unusedSectionVars false
namespace Go.Proofs.YthapjdpkelihiaaGreat.Am
def fI {α:Type} (x:Int) (k:Int→α):α:=match x with
 |.ofNat 0=>k (.ofNat 0)
 |.ofNat (n+1)=>k (.ofNat (Nat.succ n))
 |.negSucc n=>k (.negSucc n)
theorem WW {α:Type} (x:Int) (k:Int→α):fI x k=k x:=by
 unfold fI;split<;>rfl
def fL {α:Type}:List Int→(List Int→α)→α
 |[],k=>k []
 |x::r,k=>fI x fun x=>fL r fun r=>k (x::r)
theorem kG {α:Type}: ∀(l:List Int) (k:List Int→α),fL l k=k l
 |[],k=>rfl
 |x::r,k=>by simp only[fL,WW,kG r]
def fLL {α:Type}:List (List Int)→(List (List Int)→α)→α
 |[],k=>k []
 |x::r,k=>fL x fun x=>fLL r fun r=>k (x::r)
theorem jE {α:Type}: ∀(l:List (List Int)) (k:List (List Int)→α),fLL l k=k l
 |[],k=>rfl
 |x::r,k=>by simp only[fLL,kG,jE r]
abbrev Z:=Fin 31
def zz (x:Int):Z:=⟨(x%31).toNat,by omega⟩
theorem KL {x y:Int}:zz x=zz y↔x%31=y%31:=by
 unfold zz
 rw[Fin.mk.injEq]
 omega
theorem kV (x y:Int):zz (x+y)=zz x+zz y:=by
 apply Fin.ext
 show((x+y)%31).toNat=((x%31).toNat+(y%31).toNat)%31
 omega
theorem gF (x y:Int):zz (x*y)=zz x*zz y:=by
 apply Fin.ext
 show((x*y)%31).toNat=((x%31).toNat*(y%31).toNat)%31
 have h1:=Int.mul_emod x y 31
 have hx:((x%31).toNat:Int)=x%31:=by omega
 have hy:((y%31).toNat:Int)=y%31:=by omega
 have:(((x%31).toNat*(y%31).toNat:Nat):Int)=(x%31)*(y%31):=by rw[Int.natCast_mul,hx,hy]
 omega
theorem WF (x y:Int):zz (x-y)=zz x-zz y:=by
 have h:zz x=zz (x-y)+zz y:=by rw[←kV];congr 1;omega
 rw[h];grind
theorem mU (x:Int):zz (x%31)=zz x:=KL.2 (by omega)
theorem pZ {x y:Int} (hx:fok x=true) (hy:fok y=true) (h:zz x=zz y):x=y:=by
 have:=KL.1 h
 have h1:=cU.1 hx
 have h2:=cU.1 hy
 omega
theorem lJ:zz 0=0:=rfl
theorem a59:zz 30= -1:=by decide
def eF (f:Nat→Z):Nat→Z
 |0=>0
 |n+1=>eF f n+f n
theorem dH {f g:Nat→Z}: ∀ {n:Nat},(∀i,i<n→f i=g i)→eF f n=eF g n
 |0,_=>rfl
 |n+1,h=>by simp only[eF];rw[dH fun i hi=>h i (by omega),h n (by omega)]
theorem oF (f g:Nat→Z): ∀n,eF (fun i=>f i+g i) n=eF f n+eF g n
 |0=>by simp only[eF];grind
 |n+1=>by simp only[eF];rw[oF f g n];grind
theorem kT (f:Nat→Z) (c:Z): ∀n,eF (fun i=>f i*c) n=eF f n*c
 |0=>by simp only[eF];grind
 |n+1=>by simp only[eF];rw[kT f c n];grind
def dz (r d:List Int):Z:=zz (r.getD 0 0)*zz (d.getD 0 0)+zz (r.getD 1 0)*zz (d.getD 1 0)+zz (r.getD 2 0)*zz (d.getD 2 0)+zz (r.getD 3 0)*zz (d.getD 3 0)
theorem oG (n:Nat) (b:Nat→Z) (r:Nat→List Int) (s d:List Int) (h: ∀q,q<4→eF (fun j=>b j*zz ((r j).getD q 0)) n=zz (s.getD q 0)):eF (fun j=>b j*dz (r j) d) n=dz s d:=by
 have e: ∀j,b j*dz (r j) d=b j*zz ((r j).getD 0 0)*zz (d.getD 0 0)+b j*zz ((r j).getD 1 0)*zz (d.getD 1 0)+b j*zz ((r j).getD 2 0)*zz (d.getD 2 0)+b j*zz ((r j).getD 3 0)*zz (d.getD 3 0):=fun j=>by unfold dz;grind
 rw[dH fun j _=>e j,oF,oF,oF,kT,kT,kT,kT,h 0 (by omega),h 1 (by omega),h 2 (by omega),h 3 (by omega)]
 rfl
def rH (f:Nat→Int):Nat→Int
 |0=>0
 |n+1=>rH f n+f n
theorem iE (f:Nat→Int): ∀n,zz (rH f n)=eF (fun i=>zz (f i)) n
 |0=>rfl
 |n+1=>by simp only[rH,eF,kV,iE f n]
theorem lF {s:Nat→Int→Int} {f:Nat→Z} (n:Nat) (h: ∀i x,i<n→zz (s i x)=zz x+f i):zz (bP s n 0 0)=eF f n:=
 bH (step:=s) (fun i x=>zz x=eF f i) n 0 rfl fun i x hi hx=>by rw[h i x hi,hx];rfl
theorem gH (k:Int) (d:List Int) (a:Int):zz (c8 k d a)=dz (aL k a) d:=by
 simp only[c8,CF,dz,kV,mU,gF,lJ]
 grind
theorem gL (k:Int) (d:List Int) (a:Int):fok (c8 k d a)=true:=c9 _
theorem OY (w v kk:List Int):zz (AU w v kk)=eF (fun j=>zz (kk.getD (j+4) 0)*zz (w.getD (v.getD j 0).toNat 0)) v.length:=
 lF (s:=O5 w v kk) _ fun i x _=>by simp only[O5,Nat.mul_one,mU,kV,gF]
theorem yH (v w:List Int):zz (aT v w)=eF (fun j=>zz (v.getD j 0)*zz (w.getD j 0)) v.length:=by
 have e: ∀(f i:Nat) (n:Int),qF v w f i n=bP (fun i n=>(n+v.getD i 0*w.getD i 0)%31) f i n:=by
  intro f
  induction f with
  |zero=>intro i n;rfl
  |succ f ih=>intro i n;exact ih (i+1) _
 unfold aT
 rw[e]
 exact lF _ fun i x _=>by simp only[mU,kV,gF]
theorem l7 (c:List Bool): ∀(k i:Nat) (x:Int),x∈eG c k i↔ ∃a:Nat,i≤a∧a<i+k∧c.getD a false=true∧x=a
 |0,i,x=>by simp[eG];omega
 |k+1,i,x=>by
  have ih:=l7 c k (i+1) x
  simp only[eG]
  cases hc:c.getD i false with
  |true=>
   rw[if_pos rfl,List.mem_cons,ih]
   constructor
   ·rintro(h|⟨a,h1,h2,h3,h4⟩)
    ·exact⟨i,by omega,by omega,hc,h⟩
    ·exact⟨a,by omega,by omega,h3,h4⟩
   ·rintro⟨a,h1,h2,h3,h4⟩
    by_cases e:a=i
    ·subst e;exact .inl h4
    ·exact .inr ⟨a,by omega,by omega,h3,h4⟩
  |false=>
   rw[if_neg (by simp),ih]
   constructor
   ·rintro⟨a,h1,h2,h3,h4⟩;exact⟨a,by omega,by omega,h3,h4⟩
   ·rintro⟨a,h1,h2,h3,h4⟩
    have:a≠i:=by intro e;subst e;rw[hc]at h3;cases h3
    exact⟨a,by omega,by omega,h3,h4⟩
theorem DY {c:List Bool} (hc:c.length=8) {a:Nat} (ha:a<8) (h:c.getD a false=true): ∃i,i<(flg c).length∧(flg c).getD i 0=(a:Int):=by
 have:(a:Int)∈flg c:=(l7 c c.length 0 a).2 ⟨a,by omega,by omega,h,rfl⟩
 obtain⟨i,hi⟩:=List.getElem?_of_mem this
 exact⟨i,(List.getElem?_eq_some_iff.1 hi).1,by rw[List.getD_eq_getElem?_getD,hi];rfl⟩
theorem rM {c:List Bool} (hc:c.length=8) {i:Nat} (hi:i<(flg c).length): ∃a:Nat,a<8∧c.getD a false=true∧(flg c).getD i 0=(a:Int):=by
 have:(flg c).getD i 0∈flg c:=by
  rw[List.getD_eq_getElem?_getD,List.getElem?_eq_getElem hi];exact List.getElem_mem hi
 obtain⟨a,h1,h2,h3,h4⟩:=(l7 c c.length 0 _).1 this
 exact⟨a,by omega,h3,h4⟩
def Fit (k:Int) (w:List Int) (c:List Bool) (d:List Int):Prop:= ∀a:Nat,a<8→c.getD a false=true→c8 k d a=w.getD a 0
theorem kH {k:Int} {w:List Int} {c:List Bool} (hc:c.length=8):cJ k w (flg c)=true↔Fit k w c (dS k w (flg c)):=by
 unfold cJ
 rw[bY]
 constructor
 ·intro h a ha hca
  obtain⟨i,hi,e⟩:=DY hc ha hca
  have:=h i (by omega) (by omega)
  unfold xV at this
  rw[e,Int.toNat_natCast]at this
  simpa using this
 ·intro h i _ hi
  obtain⟨a,ha,hca,e⟩:=rM hc (i:=i) (by omega)
  unfold xV
  rw[e,Int.toNat_natCast,h a ha hca]
  simp
def y5 (x:Int):Bool:=x%31==0
def DR (k:Int) (v ys:List Int) (r:Nat):Bool:=cB (fun i=>cB (fun q=>y5 (rH (fun j=>ys.getD (i*12+(j+4)) 0*(aL k (v.getD j 0)).getD q 0) v.length-ys.getD (i*12+q) 0)) 4) r
def DS (zs:List Int) (r:Nat):Bool:=cB (fun i=>cB (fun j=> !(ld5 zs i==ld5 zs j)) i) r
def DT (k:Int) (c:List Bool) (zs:List Int) (r:Nat):Bool:=cB (fun a=> !c.getD a false||cB (fun q=>y5 (rH (fun i=>(aL k a).getD (ld5 zs i).toNat 0*zs.getD (i*5+q) 0) r-(aL k a).getD q 0)) 4) 8
def wG (xs:List Int):Nat→Nat→List Int→List Int→(List Int→List Int→Bool)→Bool
 |0,_,ys,ps,k=>k ys ps
 |f+1,i,ys,ps,k=>fL (KK xs ys ps.length i) fun kk=>bif decide (ld4 kk<0)then wG xs f (i+1) ys ps k else fL (oneK kk) fun o=>wG xs f (i+1) (ys++o) (ps++[(i:Int)]) k
theorem oD (xs:List Int): ∀(f i:Nat) (ys ps:List Int) (k:List Int→List Int→Bool),wG xs f i ys ps k=k (fE xs f i (ys,ps)).1 (fE xs f i (ys,ps)).2
 |0,i,ys,ps,k=>rfl
 |f+1,i,ys,ps,k=>by
  simp only[wG,kG,fE]
  cases decide (ld4 (KK xs ys ps.length i)<0)
  ·simp only[cond_false];exact oD xs f (i+1) _ _ k
  ·simp only[cond_true];exact oD xs f (i+1) _ _ k
def NL (n:Nat):Nat→Nat→List Int→(List Int→Bool)→Bool
 |0,_,zs,k=>k zs
 |f+1,i,zs,k=>fL (lM n i zs) fun zs=>NL n f (i+1) zs k
theorem EB (n:Nat): ∀(f i:Nat) (zs:List Int) (k:List Int→Bool),NL n f i zs k=k (bP (lM n) f i zs)
 |0,i,zs,k=>rfl
 |f+1,i,zs,k=>by simp only[NL,kG];exact EB n f (i+1) _ k
def CE (k:Int) (c:List Bool):Bool:=
 fL (cG k (flg c)) fun xs=>wG xs (flg c).length 0 [] [] fun ys ps=>fL (m6 z8 (flg c) ys ps.length) fun ts=>NL ps.length ps.length 0 ts fun zs=>DR k (flg c) ys ps.length&&(DS zs ps.length&&DT k c zs ps.length)
theorem HS {k:Int} {c:List Bool} (h:CE k c=true):DR k (flg c) (spK k (flg c)).1 (spK k (flg c)).2.length=true∧DS (eO k z8 (flg c)) (spK k (flg c)).2.length=true∧DT k c (eO k z8 (flg c)) (spK k (flg c)).2.length=true:=by
 simp only[CE,kG,oD,EB,Bool.and_eq_true]at h
 exact h
theorem HH {P:Int→List Bool→Prop} {f:Int→List Bool→Bool} (hf: ∀k c,f k c=true→P k c) (h1:cB (fun m=>f 1 (dA m)) 128=true) (h2:cB (fun m=>f 1 (dA (m+128))) 128=true) (h3:cB (fun m=>f 2 (dA m)) 128=true) (h4:cB (fun m=>f 2 (dA (m+128))) 128=true)
  {k:Int} {c:List Bool} (hk:bet k 1 2=true) (hc:c.length=8):P k c:=by
 obtain⟨m,hm,rfl⟩:=nR c hc
 refine hf _ _ ?_
 rcases two hk with rfl|rfl
 ·by_cases h:m<128
  ·exact aY h1 m h
  ·have:=aY h2 (m-128) (by omega)
   rwa[show m-128+128=m from by omega]at this
 ·by_cases h:m<128
  ·exact aY h3 m h
  ·have:=aY h4 (m-128) (by omega)
   rwa[show m-128+128=m from by omega]at this
theorem l8 {x y:Int} (h:y5 (x-y)=true):zz x=zz y:=by
 unfold y5 at h
 rw[KL]
 simp only[beq_iff_eq]at h
 omega
end Go.Proofs.YthapjdpkelihiaaGreat.Am
