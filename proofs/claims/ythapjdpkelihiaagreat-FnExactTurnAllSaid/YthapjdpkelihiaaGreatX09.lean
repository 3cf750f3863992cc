/- DERIVED. Pure: shards fit if some numbers have their values. No statement of the program is proved here. -/
import Derived.Test.YthapjdpkelihiaaGreatX08
set_option linter.unusedSimpArgs false
set_option linter.unusedVariables false
set_option linter.unusedSectionVars false
namespace Go.Proofs.YthapjdpkelihiaaGreat.Am
def fI {α:Type} (x:Int) (k:Int→α):α:=match x with
 |.ofNat 0=>k (.ofNat 0)
 |.ofNat (n+1)=>k (.ofNat (Nat.succ n))
 |.negSucc n=>k (.negSucc n)
theorem fI_eq {α:Type} (x:Int) (k:Int→α):fI x k=k x:=by
 unfold fI;split<;>rfl
def fL {α:Type}:List Int→(List Int→α)→α
 |[],k=>k []
 |x::r,k=>fI x fun x=>fL r fun r=>k (x::r)
theorem fL_eq {α:Type}: ∀(l:List Int) (k:List Int→α),fL l k=k l
 |[],k=>rfl
 |x::r,k=>by simp only[fL,fI_eq,fL_eq r]
def fLL {α:Type}:List (List Int)→(List (List Int)→α)→α
 |[],k=>k []
 |x::r,k=>fL x fun x=>fLL r fun r=>k (x::r)
theorem fLL_eq {α:Type}: ∀(l:List (List Int)) (k:List (List Int)→α),fLL l k=k l
 |[],k=>rfl
 |x::r,k=>by simp only[fLL,fL_eq,fLL_eq r]
abbrev Z:=Fin 31
def zz (x:Int):Z:=⟨(x%31).toNat,by omega⟩
theorem zz_eq {x y:Int}:zz x=zz y↔x%31=y%31:=by
 unfold zz
 rw[Fin.mk.injEq]
 omega
theorem zz_add (x y:Int):zz (x+y)=zz x+zz y:=by
 apply Fin.ext
 show((x+y)%31).toNat=((x%31).toNat+(y%31).toNat)%31
 omega
theorem zz_mul (x y:Int):zz (x*y)=zz x*zz y:=by
 apply Fin.ext
 show((x*y)%31).toNat=((x%31).toNat*(y%31).toNat)%31
 have h1:=Int.mul_emod x y 31
 have hx:((x%31).toNat:Int)=x%31:=by omega
 have hy:((y%31).toNat:Int)=y%31:=by omega
 have:(((x%31).toNat*(y%31).toNat:Nat):Int)=(x%31)*(y%31):=by rw[Int.natCast_mul,hx,hy]
 omega
theorem zz_sub (x y:Int):zz (x-y)=zz x-zz y:=by
 have h:zz x=zz (x-y)+zz y:=by rw[←zz_add];congr 1;omega
 rw[h];grind
theorem zz_mod (x:Int):zz (x%31)=zz x:=zz_eq.2 (by omega)
theorem zz_fok {x y:Int} (hx:fok x=true) (hy:fok y=true) (h:zz x=zz y):x=y:=by
 have:=zz_eq.1 h
 have h1:=fok_iff.1 hx
 have h2:=fok_iff.1 hy
 omega
theorem zz_zero:zz 0=0:=rfl
theorem zz_m1:zz 30= -1:=by decide
def sumZ (f:Nat→Z):Nat→Z
 |0=>0
 |n+1=>sumZ f n+f n
theorem sumZ_congr {f g:Nat→Z}: ∀ {n:Nat},(∀i,i<n→f i=g i)→sumZ f n=sumZ g n
 |0,_=>rfl
 |n+1,h=>by simp only[sumZ];rw[sumZ_congr fun i hi=>h i (by omega),h n (by omega)]
theorem sumZ_add (f g:Nat→Z): ∀n,sumZ (fun i=>f i+g i) n=sumZ f n+sumZ g n
 |0=>by simp only[sumZ];grind
 |n+1=>by simp only[sumZ];rw[sumZ_add f g n];grind
theorem sumZ_mul (f:Nat→Z) (c:Z): ∀n,sumZ (fun i=>f i*c) n=sumZ f n*c
 |0=>by simp only[sumZ];grind
 |n+1=>by simp only[sumZ];rw[sumZ_mul f c n];grind
def dz (r d:List Int):Z:=zz (r.getD 0 0)*zz (d.getD 0 0)+zz (r.getD 1 0)*zz (d.getD 1 0)+zz (r.getD 2 0)*zz (d.getD 2 0)+zz (r.getD 3 0)*zz (d.getD 3 0)
theorem sumZ_dz (n:Nat) (b:Nat→Z) (r:Nat→List Int) (s d:List Int) (h: ∀q,q<4→sumZ (fun j=>b j*zz ((r j).getD q 0)) n=zz (s.getD q 0)):sumZ (fun j=>b j*dz (r j) d) n=dz s d:=by
 have e: ∀j,b j*dz (r j) d=b j*zz ((r j).getD 0 0)*zz (d.getD 0 0)+b j*zz ((r j).getD 1 0)*zz (d.getD 1 0)+b j*zz ((r j).getD 2 0)*zz (d.getD 2 0)+b j*zz ((r j).getD 3 0)*zz (d.getD 3 0):=fun j=>by unfold dz;grind
 rw[sumZ_congr fun j _=>e j,sumZ_add,sumZ_add,sumZ_add,sumZ_mul,sumZ_mul,sumZ_mul,sumZ_mul,h 0 (by omega),h 1 (by omega),h 2 (by omega),h 3 (by omega)]
 rfl
def sumI (f:Nat→Int):Nat→Int
 |0=>0
 |n+1=>sumI f n+f n
theorem zz_sumI (f:Nat→Int): ∀n,zz (sumI f n)=sumZ (fun i=>zz (f i)) n
 |0=>rfl
 |n+1=>by simp only[sumI,sumZ,zz_add,zz_sumI f n]
theorem runN_sumZ {s:Nat→Int→Int} {f:Nat→Z} (n:Nat) (h: ∀i x,i<n→zz (s i x)=zz x+f i):zz (runN s n 0 0)=sumZ f n:=
 runN_inv0 (step:=s) (fun i x=>zz x=sumZ f i) n 0 rfl fun i x hi hx=>by rw[h i x hi,hx];rfl
theorem zz_encE (k:Int) (d:List Int) (a:Int):zz (encE k d a)=dz (rowL k a) d:=by
 simp only[encE,dot4,dz,zz_add,zz_mod,zz_mul,zz_zero]
 grind
theorem encE_fok (k:Int) (d:List Int) (a:Int):fok (encE k d a)=true:=fok_mod _
theorem zz_valL (w v kk:List Int):zz (valL w v kk)=sumZ (fun j=>zz (kk.getD (j+4) 0)*zz (w.getD (v.getD j 0).toNat 0)) v.length:=
 runN_sumZ (s:=valS w v kk) _ fun i x _=>by simp only[valS,Nat.mul_one,zz_mod,zz_add,zz_mul]
theorem zz_dotL (v w:List Int):zz (dotL v w)=sumZ (fun j=>zz (v.getD j 0)*zz (w.getD j 0)) v.length:=by
 have e: ∀(f i:Nat) (n:Int),dotAt v w f i n=runN (fun i n=>(n+v.getD i 0*w.getD i 0)%31) f i n:=by
  intro f
  induction f with
  |zero=>intro i n;rfl
  |succ f ih=>intro i n;exact ih (i+1) _
 unfold dotL
 rw[e]
 exact runN_sumZ _ fun i x _=>by simp only[zz_mod,zz_add,zz_mul]
theorem mem_flgAt (c:List Bool): ∀(k i:Nat) (x:Int),x∈flgAt c k i↔ ∃a:Nat,i≤a∧a<i+k∧c.getD a false=true∧x=a
 |0,i,x=>by simp[flgAt];omega
 |k+1,i,x=>by
  have ih:=mem_flgAt c k (i+1) x
  simp only[flgAt]
  cases hc:c.getD i false with
  |true=>
   rw[if_pos rfl,List.mem_cons,ih]
   constructor
   ·rintro(h|⟨a,h1,h2,h3,h4⟩)
    ·exact⟨i,by omega,by omega,hc,h⟩
    ·exact⟨a,by omega,by omega,h3,h4⟩
   ·rintro⟨a,h1,h2,h3,h4⟩
    by_cases e:a=i
    ·subst e;exact .inl h4
    ·exact .inr ⟨a,by omega,by omega,h3,h4⟩
  |false=>
   rw[if_neg (by simp),ih]
   constructor
   ·rintro⟨a,h1,h2,h3,h4⟩;exact⟨a,by omega,by omega,h3,h4⟩
   ·rintro⟨a,h1,h2,h3,h4⟩
    have:a≠i:=by intro e;subst e;rw[hc]at h3;cases h3
    exact⟨a,by omega,by omega,h3,h4⟩
theorem flg_mem {c:List Bool} (hc:c.length=8) {a:Nat} (ha:a<8) (h:c.getD a false=true): ∃i,i<(flg c).length∧(flg c).getD i 0=(a:Int):=by
 have:(a:Int)∈flg c:=(mem_flgAt c c.length 0 a).2 ⟨a,by omega,by omega,h,rfl⟩
 obtain⟨i,hi⟩:=List.getElem?_of_mem this
 exact⟨i,(List.getElem?_eq_some_iff.1 hi).1,by rw[List.getD_eq_getElem?_getD,hi];rfl⟩
theorem flg_get {c:List Bool} (hc:c.length=8) {i:Nat} (hi:i<(flg c).length): ∃a:Nat,a<8∧c.getD a false=true∧(flg c).getD i 0=(a:Int):=by
 have:(flg c).getD i 0∈flg c:=by
  rw[List.getD_eq_getElem?_getD,List.getElem?_eq_getElem hi];exact List.getElem_mem hi
 obtain⟨a,h1,h2,h3,h4⟩:=(mem_flgAt c c.length 0 _).1 this
 exact⟨a,by omega,h3,h4⟩
def Fit (k:Int) (w:List Int) (c:List Bool) (d:List Int):Prop:= ∀a:Nat,a<8→c.getD a false=true→encE k d a=w.getD a 0
theorem fits_iff {k:Int} {w:List Int} {c:List Bool} (hc:c.length=8):fitsL k w (flg c)=true↔Fit k w c (solL k w (flg c)):=by
 unfold fitsL
 rw[allR_spec]
 constructor
 ·intro h a ha hca
  obtain⟨i,hi,e⟩:=flg_mem hc ha hca
  have:=h i (by omega) (by omega)
  unfold fitE at this
  rw[e,Int.toNat_natCast]at this
  simpa using this
 ·intro h i _ hi
  obtain⟨a,ha,hca,e⟩:=flg_get hc (i:=i) (by omega)
  unfold fitE
  rw[e,Int.toNat_natCast,h a ha hca]
  simp
def mod0 (x:Int):Bool:=x%31==0
def chkA1 (k:Int) (v ys:List Int) (r:Nat):Bool:=allK (fun i=>allK (fun q=>mod0 (sumI (fun j=>ys.getD (i*12+(j+4)) 0*(rowL k (v.getD j 0)).getD q 0) v.length-ys.getD (i*12+q) 0)) 4) r
def chkA2 (zs:List Int) (r:Nat):Bool:=allK (fun i=>allK (fun j=> !(ld5 zs i==ld5 zs j)) i) r
def chkA3 (k:Int) (c:List Bool) (zs:List Int) (r:Nat):Bool:=allK (fun a=> !c.getD a false||allK (fun q=>mod0 (sumI (fun i=>(rowL k a).getD (ld5 zs i).toNat 0*zs.getD (i*5+q) 0) r-(rowL k a).getD q 0)) 4) 8
def spanF (xs:List Int):Nat→Nat→List Int→List Int→(List Int→List Int→Bool)→Bool
 |0,_,ys,ps,k=>k ys ps
 |f+1,i,ys,ps,k=>fL (KK xs ys ps.length i) fun kk=>bif decide (ld4 kk<0)then spanF xs f (i+1) ys ps k else fL (oneK kk) fun o=>spanF xs f (i+1) (ys++o) (ps++[(i:Int)]) k
theorem spanF_eq (xs:List Int): ∀(f i:Nat) (ys ps:List Int) (k:List Int→List Int→Bool),spanF xs f i ys ps k=k (spanAt xs f i (ys,ps)).1 (spanAt xs f i (ys,ps)).2
 |0,i,ys,ps,k=>rfl
 |f+1,i,ys,ps,k=>by
  simp only[spanF,fL_eq,spanAt]
  cases decide (ld4 (KK xs ys ps.length i)<0)
  ·simp only[cond_false];exact spanF_eq xs f (i+1) _ _ k
  ·simp only[cond_true];exact spanF_eq xs f (i+1) _ _ k
def redF (n:Nat):Nat→Nat→List Int→(List Int→Bool)→Bool
 |0,_,zs,k=>k zs
 |f+1,i,zs,k=>fL (redT n i zs) fun zs=>redF n f (i+1) zs k
theorem redF_eq (n:Nat): ∀(f i:Nat) (zs:List Int) (k:List Int→Bool),redF n f i zs k=k (runN (redT n) f i zs)
 |0,i,zs,k=>rfl
 |f+1,i,zs,k=>by simp only[redF,fL_eq];exact redF_eq n f (i+1) _ k
def chkA (k:Int) (c:List Bool):Bool:=
 fL (rowsL k (flg c)) fun xs=>spanF xs (flg c).length 0 [] [] fun ys ps=>fL (toldL z8 (flg c) ys ps.length) fun ts=>redF ps.length ps.length 0 ts fun zs=>chkA1 k (flg c) ys ps.length&&(chkA2 zs ps.length&&chkA3 k c zs ps.length)
theorem chkA_iff {k:Int} {c:List Bool} (h:chkA k c=true):chkA1 k (flg c) (spK k (flg c)).1 (spK k (flg c)).2.length=true∧chkA2 (redK k z8 (flg c)) (spK k (flg c)).2.length=true∧chkA3 k c (redK k z8 (flg c)) (spK k (flg c)).2.length=true:=by
 simp only[chkA,fL_eq,spanF_eq,redF_eq,Bool.and_eq_true]at h
 exact h
theorem all512 {P:Int→List Bool→Prop} {f:Int→List Bool→Bool} (hf: ∀k c,f k c=true→P k c) (h1:allK (fun m=>f 1 (maskB m)) 128=true) (h2:allK (fun m=>f 1 (maskB (m+128))) 128=true) (h3:allK (fun m=>f 2 (maskB m)) 128=true) (h4:allK (fun m=>f 2 (maskB (m+128))) 128=true)
  {k:Int} {c:List Bool} (hk:bet k 1 2=true) (hc:c.length=8):P k c:=by
 obtain⟨m,hm,rfl⟩:=maskB_of c hc
 refine hf _ _ ?_
 rcases two hk with rfl|rfl
 ·by_cases h:m<128
  ·exact allK_spec h1 m h
  ·have:=allK_spec h2 (m-128) (by omega)
   rwa[show m-128+128=m from by omega]at this
 ·by_cases h:m<128
  ·exact allK_spec h3 m h
  ·have:=allK_spec h4 (m-128) (by omega)
   rwa[show m-128+128=m from by omega]at this
theorem mod0_zz {x y:Int} (h:mod0 (x-y)=true):zz x=zz y:=by
 unfold mod0 at h
 rw[zz_eq]
 simp only[beq_iff_eq]at h
 omega
end Go.Proofs.YthapjdpkelihiaaGreat.Am
