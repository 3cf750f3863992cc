/- DERIVED. Part 3 of the proof: C16, C17, Am27, Am28, C18, C19, C20, Am29, C21, C22, C23, C24, Am30, C25, C26, C27, Am31. No statement of the program is proved here. -/
import Derived.Test.YthapjdpkelihiaaGreatX02
set_option linter.unusedSimpArgs false
set_option linter.unusedVariables false
set_option linter.unusedSectionVars false
namespace Go.Proofs.YthapjdpkelihiaaGreat.Am
section
def T13:List bD:=[⟨186,[],rU⟩]++T12
theorem e13:a6 Tryz.prog T13:=by
 refine a6.append ?_ e12
 intro e he
 simp only[List.mem_cons,List.not_mem_nil,or_false]at he
 subst he;exact a6G
theorem t13:bJ Tryz.prog (a9 T13):=aM e13
noncomputable abbrev f183:=Tryz.f215
noncomputable def qT (nl:Option Bool) (cap:Option Nat) (v:List Int) (i:Int):St:=
 aY f183.ntmps [(0,.c (.view nl (.ints .i64 v) v.length 1 cap)),(1,.c (.fn 216 [])),(7,.c (.int .i64 v.length)),(8,.c (.int .i64 i))] []
noncomputable def PI:St:=aY f183.ntmps [] []
noncomputable def PM (i:Int):St:=aY f183.ntmps [(4,.c (.int .i64 i))] []
section
variable (nl : Option Bool) (cap : Option Nat) (v : List Int) (i : Int)
theorem SO:aC 0 (a8 f183 0) (aA f183 0) (aG tt (a9 T13) [] 0 100 (a0 0 (a5 f183)) (qT nl cap v i) [(0,true),(0,true)])=
  some (.ret,(decide (i<v.length)&&(decide (0≤i)&&(decide (i<v.length)&&(decide (i.toNat<v.length)&&((v.getD i.toNat 0 !=0)&&true))))),[],PM i):=by kernel_rfl
theorem SP:aC 0 (a8 f183 0) (aA f183 0) (aG tt (a9 T13) [] 0 100 (a0 0 (a5 f183)) (qT nl cap v i) [(0,true),(0,false)])=
  some (.normal,(decide (i<v.length)&&(decide (0≤i)&&(decide (i<v.length)&&(decide (i.toNat<v.length)&&(!(v.getD i.toNat 0 !=0)&&true))))),[],qT nl cap v (IntKind.i64.wrap (i+1))):=by kernel_rfl
theorem SQ:aC 0 (a8 f183 0) (aA f183 0) (aG tt (a9 T13) [] 0 100 (a0 0 (a5 f183)) (qT nl cap v i) [(0,false)])=
  some (.exit 0,(!decide (i<v.length)&&true),[],PI):=by kernel_rfl
end
noncomputable def XI:Option Nat→St
 |some j=>PM j
 |none=>PI
theorem a51 (nl:Option Bool) (cap:Option Nat) (v:List Int) (hl:v.length≤274877906944):
  aS Tryz.prog 0 (.block 0 (.loop (a0 0 (a5 f183)))) (qT nl cap v 0) fun e t=>e=qV (dQ (fun x=>x !=0) v)∧t=XI (dQ (fun x=>x !=0) v):=by
 refine aS.roundsR hT t13 bK (m:=0) (id:=0) (body:=a0 0 (a5 f183)) (α:=Nat)
  (fun i=>i≤v.length∧dA (fun x=>x !=0) v (v.length-i) i=dQ (fun x=>x !=0) v) (fun i=>qT nl cap v i) (fun i=>v.length-i) (a8 f183 0) (aA f183 0)
  (fun _=>qV (dQ (fun x=>x !=0) v)) (fun _=>XI (dQ (fun x=>x !=0) v)) (fun _=>[]) (fun _ _=>aI.nil) (fun i hx=> ?_) 0 ⟨by simp,rfl⟩
 obtain⟨h1,h3⟩:=hx
 by_cases hi:i<v.length
 ·have hk:v.length-i=(v.length-(i+1))+1:=by omega
  rw[hk]at h3
  simp only[dA]at h3
  cases hz:(v.getD i 0 !=0)with
  |false=>
   rw[hz]at h3
   refine⟨_,_,_,_,_,_,SP nl cap v i, ?_,by simp,.inl ⟨rfl,i+1,⟨by omega,by simpa using h3⟩,by omega, ?_,rfl,rfl⟩⟩
   ·rw[Int.toNat_natCast,hz];simp[hi]
   ·rw[aB (by omega) (by omega)];simp
  |true=>
   rw[hz]at h3
   simp only[cond_true]at h3
   refine⟨_,_,_,_,_,_,SO nl cap v i, ?_,by simp,.inr (.inr ⟨by simp,by simp, ?_, ?_⟩)⟩
   ·rw[Int.toNat_natCast,hz];simp[hi]
   ·rw[←h3];rfl
   ·rw[←h3];rfl
 ·have hz:v.length-i=0:=by omega
  rw[hz]at h3
  simp only[dA]at h3
  exact⟨_,_,_,_,_,_,SQ nl cap v i,by simp;omega,by simp,.inr (.inl ⟨rfl,by rw[←h3];rfl,by rw[←h3];rfl⟩)⟩
def wB:aN:=fun args h=>
 match args,h with
 |[.c (.view nl (.ints .i64 v) len 1 cap),.c (.fn 216 [])],[]=>some (.c (.int .i64 (cR (fun x=>x !=0) v)),[],[decide (v.length≤274877906944)])
 |_,_=>none
theorem a6Q:aP Tryz.prog 215 wB:=by
 intro args h res h' o he ho
 unfold wB at he
 split at he
 ·rename_i nl v len cap
  simp only[Option.some.injEq,Prod.mk.injEq]at he
  obtain⟨rfl,rfl,rfl⟩:=he
  have o1:v.length≤274877906944:=by simpa using ho
  refine bA.len ⟨f183,by kernel_rfl,by kernel_rfl,by kernel_rfl⟩ fun hlen=> ?_
  simp only[List.mem_cons,List.not_mem_nil,or_false,forall_eq_or_imp,forall_eq,AV.lenOk,aF.lenOk,Con.size,Nat.mul_one]at hlen
  obtain⟨rfl,-⟩:=hlen
  have g:=a51 nl cap v o1
  unfold cR
  cases hx:dQ (fun x=>x !=0) v with
  |none=>
   rw[hx]at g
   exact cG t13 (fn:=f183) (lc:=[(0,⟨a8 f183 0,qT nl cap v 0,.normal,PI⟩)]) (fuel:=100) (p:=[]) (o:=⟨_,_,true,[qT nl cap v 0=qT nl cap v 0]⟩)
    (by kernel_rfl) (by kernel_rfl) (by kernel_rfl) rfl (by simp) (fun cc hc=>aI.cons (c:=cc) (by cases hc;kernel_rfl) (by cases hc;exact g) aI.nil)
  |some j=>
   rw[hx]at g
   exact cG t13 (fn:=f183) (lc:=[(0,⟨a8 f183 0,qT nl cap v 0,.ret,PM j⟩)]) (fuel:=100) (p:=[]) (o:=⟨_,_,true,[qT nl cap v 0=qT nl cap v 0]⟩)
    (by kernel_rfl) (by kernel_rfl) (by kernel_rfl) rfl (by simp) (fun cc hc=>aI.cons (c:=cc) (by cases hc;kernel_rfl) (by cases hc;exact g) aI.nil)
 ·cases he
def T14:List bD:=[⟨215,[],wB⟩]++T13
theorem e14:a6 Tryz.prog T14:=by
 refine a6.append ?_ e13
 intro e he
 simp only[List.mem_cons,List.not_mem_nil,or_false]at he
 subst he;exact a6Q
theorem t14:bJ Tryz.prog (a9 T14):=aM e14
def wT:aN:=fun args h=>
 match args,h with
 |[.agg [.int .i64 a,.int .i64 b,.int .i64 c,.int .i64 d]],[]=>some (.c (.int .i64 (cR (fun x=>x !=0) [a,b,c,d])),[],[])
 |_,_=>none
theorem a6F:aP Tryz.prog 185 wT:=by
 intro args h res h' o he ho
 unfold wT at he
 split at he
 ·rename_i a b c d
  simp only[Option.some.injEq,Prod.mk.injEq]at he
  obtain⟨rfl,rfl,rfl⟩:=he
  have e:aD tt (a9 T14) [] 100 Tryz.f185 [.agg [.int .i64 a,.int .i64 b,.int .i64 c,.int .i64 d]] [] []=some ⟨.c (.int .i64 (cR (fun x=>x !=0) [a,b,c,d])),[],true,[]⟩:=by kernel_rfl
  exact mo t14 e rfl
 ·cases he
end
section
def T15:List bD:=[⟨185,[],wT⟩]++T14
theorem e15:a6 Tryz.prog T15:=by
 refine a6.append ?_ e14
 intro e he
 simp only[List.mem_cons,List.not_mem_nil,or_false]at he
 subst he;exact a6F
theorem t15:bJ Tryz.prog (a9 T15):=aM e15
def zY (k a:Int):List Int:=[(aH k a).getD 0 0,(aH k a).getD 1 0,(aH k a).getD 2 0,(aH k a).getD 3 0]
def jD (k:Int) (v:List Int):Nat→Nat→List Int
 |0,_=>[]
 |m+1,i=>zY k (v.getD i 0)++jD k v m (i+1)
def cC (k:Int) (v:List Int):List Int:=jD k v v.length 0
def aK (v:List Int):Bool:=v.all fun a=>bet a 0 7
theorem cA {v:List Int} (h:aK v=true) {i:Nat} (hi:i<v.length):bet (v.getD i 0) 0 7=true:=by
 rw[List.getD_eq_getElem?_getD,List.getElem?_eq_getElem hi]
 exact List.all_eq_true.1 h _ (List.getElem_mem hi)
noncomputable abbrev f160:=Tryz.f183
noncomputable def yD (nl:Option Bool) (cap:Option Nat) (k:Int) (v:List Int) (i:Int) (n:Nat) (out:List Int):St:=
 aY f160.ntmps [(0,.c (.int .i64 k)),(5,.c (.sl 0 0 n 4 none)),(11,.c (.view nl (.ints .i64 v) v.length 1 cap)),(12,.c (.int .i64 v.length)),(13,.c (.int .i64 i))] [.live (.ints .i64 out)]
noncomputable def KP (n:Nat) (out:List Int):St:=aY f160.ntmps [(5,.c (.sl 0 0 n 4 none))] [.live (.ints .i64 out)]
section
variable (nl : Option Bool) (cap : Option Nat) (k : Int) (v : List Int) (i : Int) (n : Nat) (out : List Int)
theorem SD:aC 0 (a8 f160 0) (aA f160 0) (aG tt (a9 T15) [] 0 100 (a0 0 (a5 f160)) (yD nl cap k v i n out) [(0,true)])=
  some (.normal,(decide (i<v.length)&&(decide (0≤i)&&(decide (i<v.length)&&(decide (i.toNat<v.length)&&(bet k 1 2&&(bet (v.getD i.toNat 0) 0 7&&(decide (ix n 4 0=out.length)&&(decide (n+1≤274877906944)&&true)))))))),[],
   yD nl cap k v (IntKind.i64.wrap (i+1)) (n+1) (out++zY k (v.getD i.toNat 0))):=by kernel_rfl
theorem SE:aC 0 (a8 f160 0) (aA f160 0) (aG tt (a9 T15) [] 0 100 (a0 0 (a5 f160)) (yD nl cap k v i n out) [(0,false)])=
  some (.exit 0,(!decide (i<v.length)&&true),[],KP n out):=by kernel_rfl
end
theorem a4W (nl:Option Bool) (cap:Option Nat) (k:Int) (v:List Int) (hl:v.length≤274877906944) (hk:bet k 1 2=true) (hv:aK v=true):
  aS Tryz.prog 0 (.block 0 (.loop (a0 0 (a5 f160)))) (yD nl cap k v 0 0 []) fun e t=>e=.normal∧t=KP v.length (cC k v):=by
 refine aS.roundsN hT t15 bK (m:=0) (id:=0) (body:=a0 0 (a5 f160)) (α:=Nat×List Int)
  (fun x=>x.1≤v.length∧x.2.length=x.1*4∧x.2++jD k v (v.length-x.1) x.1=cC k v) (fun x=>yD nl cap k v x.1 x.1 x.2) (fun x=>v.length-x.1) (a8 f160 0) (aA f160 0)
  (fun _=>KP v.length (cC k v)) (fun _=>[]) (fun _ _=>aI.nil) (fun x hx=> ?_) (0,[]) ⟨by simp,rfl,rfl⟩
 obtain⟨i,out⟩:=x
 obtain⟨h1,h2,h3⟩:=hx
 dsimp only at h1 h2 h3⊢
 by_cases hi:i<v.length
 ·have hkk:v.length-i=(v.length-(i+1))+1:=by omega
  rw[hkk]at h3
  simp only[jD]at h3
  refine⟨_,_,_,_,_,_,SD nl cap k v i i out, ?_,by simp,.inl ⟨rfl,(i+1,out++zY k (v.getD i 0)),⟨by omega,by simp[h2,zY];omega,by simpa using h3⟩,by dsimp only;omega, ?_,rfl⟩⟩
  ·rw[Int.toNat_natCast,hk,cA hv hi,dE];simp;omega
  ·rw[aB (by omega) (by omega),Int.toNat_natCast];simp
 ·have hz:v.length-i=0:=by omega
  rw[hz]at h3
  simp only[jD,List.append_nil]at h3
  have e:i=v.length:=by omega
  exact⟨_,_,_,_,_,_,SE nl cap k v i i out,by simp;omega,by simp,.inr ⟨rfl,by rw[←h3,e]⟩⟩
def BE:aN:=fun args h=>
 match args,h with
 |[.c (.int .i64 k),.c (.view nl (.ints .i64 v) len 1 cap)],[]=>
  some (.c (.sl 0 0 v.length 4 none),[.live (.ints .i64 (cC k v))],[decide (v.length≤274877906944),bet k 1 2,aK v])
 |_,_=>none
theorem a6D:aP Tryz.prog 183 BE:=by
 intro args h res h' o he ho
 unfold BE at he
 split at he
 ·rename_i k nl v len cap
  simp only[Option.some.injEq,Prod.mk.injEq]at he
  obtain⟨rfl,rfl,rfl⟩:=he
  simp only[List.mem_cons,List.not_mem_nil,or_false,forall_eq_or_imp,forall_eq,decide_eq_true_eq]at ho
  obtain⟨o1,o2,o3⟩:=ho
  refine bA.len ⟨f160,by kernel_rfl,by kernel_rfl,by kernel_rfl⟩ fun hlen=> ?_
  simp only[List.mem_cons,List.not_mem_nil,or_false,forall_eq_or_imp,forall_eq,AV.lenOk,aF.lenOk,Con.size,Nat.mul_one]at hlen
  obtain⟨-,rfl⟩:=hlen
  exact cG t15 (fn:=f160) (lc:=[(0,⟨a8 f160 0,yD nl cap k v 0 0 [],.normal,KP v.length (cC k v)⟩)]) (fuel:=100) (p:=[])
   (o:=⟨_,_,decide (0≤(v.length:Int))&&(decide ((v.length:Int)≤274877906944)&&true),[yD nl cap k v 0 0 []=yD nl cap k v 0 0 []]⟩)
   (by kernel_rfl) (by kernel_rfl) (by kernel_rfl) (by simp;omega) (by simp) (fun cc hc=>aI.cons (c:=cc) (by cases hc;kernel_rfl) (by cases hc;exact a4W nl cap k v o1 o2 o3) aI.nil)
 ·cases he
end
section
def zL (es len n:Nat):Nat:=match es with
 |1=>n
 |_=>len
theorem ER (es len n:Nat):zL es (zL es len n) n=zL es len n:=by
 unfold zL;split<;>simp
theorem DW {es len n:Nat} (h:len*es=n):zL es len n=len:=by
 unfold zL;split<;>omega
def aF.norm:aF→aF
 |.view _ c len es _=> .view none c (zL es len c.size) es none
 |x=>x
def bF:List aF→List aF
 |[]=>[]
 |x::r=>x.norm::bF r
def AV.norm:AV→AV
 |.c x=> .c x.norm
 |.agg cs=> .agg (bF cs)
 |x=>x
def bE:List AV→List AV
 |[]=>[]
 |x::r=>x.norm::bE r
theorem aF.norm_norm (x:aF):x.norm.norm=x.norm:=by
 cases x<;>simp[aF.norm,ER]
theorem qH: ∀l:List aF,bF (bF l)=bF l
 |[]=>rfl
 |x::r=>by simp[bF,aF.norm_norm,qH r]
theorem AV.norm_norm (x:AV):x.norm.norm=x.norm:=by
 cases x<;>simp[AV.norm,aF.norm_norm,qH]
theorem qG: ∀l:List AV,bE (bE l)=bE l
 |[]=>rfl
 |x::r=>by simp[bE,AV.norm_norm,qG r]
theorem pA: ∀l:List aF,(bF l).length=l.length
 |[]=>rfl
 |x::r=>by simp[bF,pA r]
theorem p9: ∀l:List AV,(bE l).length=l.length
 |[]=>rfl
 |x::r=>by simp[bE,p9 r]
theorem sY: ∀(l:List aF) (i:Nat),(bF l).getD i .any=(l.getD i .any).norm
 |[],i=>by simp[bF,aF.norm]
 |x::r,0=>by simp[bF]
 |x::r,i+1=>by simpa [bF]using sY r i
theorem sX: ∀(l:List AV) (i:Nat),(bE l).getD i .any=(l.getD i .any).norm
 |[],i=>by simp[bE,AV.norm]
 |x::r,0=>by simp[bE]
 |x::r,i+1=>by simpa [bE]using sX r i
theorem CR0.norm {w:World} {L:Nat→Prop} {ρ:Rho} {c:aF} {v:Value} (h:CR0 w L ρ c v):CR0 w L ρ c.norm v:=by
 have h0:=h
 cases h with
 |view nl c len es cap b base k u hl hc hu hz hk hcap hnl=>
  simp only[aF.norm]
  rw[DW hz]
  exact .view none _ _ _ none b base k u hl hc hu hz hk (fun _ h=>by cases h) (fun _ h=>by cases h)
 |viewNone nl c es cap a k hz hcap hnl hk=>
  simp only[aF.norm]
  rw[DW (by rw[hz];simp)]
  exact .viewNone none c es none a k hz (fun _ h=>by cases h) (fun _ h=>by cases h) hk
 |_=>exact h0
theorem AVR.norm {X:Nat→Prop} {w:World} {ρ:Rho} {x:AV} {v:Value} (h:AVR X w ρ x v):AVR X w ρ x.norm v:=by
 cases h with
 |any=>exact .any v
 |c x v h=>exact .c _ _ (CR0.norm h)
 |agg cs vs hs h=>
  exact .agg _ _ (by rw[pA];exact hs) fun i hi=>by
   rw[pA]at hi;rw[sY];exact CR0.norm (h i hi)
 |tup l vs hs h=>exact .tup l vs hs h
def nm (G:aN):aN:=fun args h=>G (bE args) h
def aT (P:Program) (f:FuncId) (G:aN):Prop:= ∀args h res h' o,bE args=args→G args h=some (res,h',o)→(∀b∈o,b=true)→bA P f args h res h'
theorem aT.ok {P:Program} {f:FuncId} {G:aN} (hg:aT P f G):aP P f (nm G):=by
 intro args h res h' o he ho
 have hm:=hg (bE args) h res h' o (qG args) he ho
 refine⟨hm.1,fun {X w0 ρ0} m vs hl hv=>hm.2 m vs (by rw[p9];exact hl) fun q hq=> ?_⟩
 rw[p9]at hq
 rw[sX]
 exact(hv q hq).norm
mutual
def vwA (get:Get):AV→Option (AV×List Bool)
 |.any=>some (.any,[])
 |.c x=>(froz get x).map fun(y,_,o)=>(.c y,o)
 |.agg cs=>(f7 get cs).map fun(y,_,o)=>(.agg y,o)
 |.tup vs=>(vwT get vs).map fun(y,o)=>(.tup y,o)
def vwT (get:Get):List AV→Option (List AV×List Bool)
 |[]=>some ([],[])
 |x::r=>match vwA get x,vwT get r with
  |some (y,o),some (ys,o')=>some (y::ys,o++o')
  |_,_=>none
end
section
variable {X : Nat → Prop} {w0 w : World} {h : List aW} {ρ ρ0 : Rho} (m : Mem X w0 (bH ρ0) h ρ w) (hun : ∀ id, ρ0 id = .unborn)
include m hun
theorem vD {x y:aF} {s:List (Nat×aW)} {o:List Bool} {v:Value} (hf:froz (Heap.get h) x=some (y,s,o)) (ho: ∀b∈o,b=true) (hx:CR X w ρ x v):CR X w ρ0 y v:=by
 have hnl: ∀b, ¬bH ρ0 b:=fun b ⟨id,h⟩=>by rw[hun id]at h;cases h
 have mb2:eD w (fun b=>bH ρ b∨X b) w (fun b=>bH ρ0 b∨X b):=⟨fun _ _ _=>rfl,fun _ _=>rfl,Nat.le_refl _,fun b hb=> .inl (hb.elim (fun h=>absurd h (hnl b)) .inr)⟩
 unfold froz at hf
 split at hf
 ·rename_i id len es cap
  split at hf
  ·rename_i c hs
   cases hfr:c.free with
   |false=>rw[hfr]at hf;cases hf
   |true=>
    rw[hfr]at hf
    injection hf with hf;injection hf with e1 e2;injection e2 with e2 e3;subst e1 e2 e3
    have hz:len*es=c.size:=by simpa [dE]using ho _ (List.mem_singleton.2 rfl)
    rcases cW m hs hx with⟨b,k,ty,n,hb,rfl,⟨cs,ty',hrow,hsz,hcs⟩,hsh,hn,hl',hcap⟩|⟨a,rfl,rfl,hcap⟩
    ·rw[Nat.zero_mul]
     refine .view none c len es cap b 0 k (fun q=>cs.getD q undef) (fun _ h=> ?_) (fun q hq=> ?_) (fun q hq=>((hcs q hq).free (eM hfr q)).mono mb2 (cB.noIds _)) hz hl' hcap (fun _ h=>by cases h)
     ·rcases h with h|h
      ·exact hnl b h
      ·exact m.notX hb h
     ·have hq':q<cs.size:=by omega
      simp[World.cell?,hrow,Array.getD,hq']
    ·exact .viewNone none c es cap a 0 (by omega) hcap (fun _ h=>by cases h) (fun _=>rfl)
  ·cases hf
 ·cases hf
 ·cases hf
 ·cases hf
 ·rename_i h1 h2 h3 h4
  injection hf with hf;injection hf with e1 e2;subst e1
  refine CR0.lift ((CR0.free hx ?_).mono mb2 (cB.refl _))
  cases x<;>first|rfl|skip
  ·exact absurd rfl (h3 _ _ _ _)
  ·exact absurd rfl (h2 _ _ _ _ _)
  ·rename_i f caps
   cases caps with
   |nil=>rfl
   |cons x r=>exact absurd rfl (h4 _ _ _)
theorem nC: ∀ {l l':List aF} {s:List (Nat×aW)} {o:List Bool} (f:Nat→Value),f7 (Heap.get h) l=some (l',s,o)→(∀b∈o,b=true)→(∀i,i<l.length→CR X w ρ (l.getD i .any) (f i))→
  l'.length=l.length∧ ∀i,i<l.length→CR X w ρ0 (l'.getD i .any) (f i)
 |[],l',s,o,f,hf,_,_=>by
  injection hf with hf;injection hf with h1 h2;subst h1
  exact⟨rfl,fun q hq=>by simp at hq⟩
 |x::r,l',s,o,f,hf,ho,hx=>by
  simp only[f7]at hf
  split at hf
  ·rename_i y s1 o1 ys s2 o2 e1 e2
   injection hf with hf;injection hf with h1 h2;injection h2 with h2 h3;subst h1 h2 h3
   obtain⟨g1,g2⟩:=nC (fun q=>f (q+1)) e2 (fun b hb=>ho b (List.mem_append_right _ hb)) (fun q hq=>by simpa using hx (q+1) (by simpa using hq))
   refine⟨by simp[g1],fun q hq=> ?_⟩
   cases q with
   |zero=>simpa using vD m hun e1 (fun b hb=>ho b (List.mem_append_left _ hb)) (by simpa using hx 0 (by simp))
   |succ q=>simpa using g2 q (by simpa using hq)
  ·cases hf
mutual
theorem AI: ∀ {x y:AV} {o:List Bool} {v:Value},vwA (Heap.get h) x=some (y,o)→(∀b∈o,b=true)→AVR X w ρ x v→AVR X w ρ0 y v
 |.any,y,o,v,hf,ho,hx=>by
  simp only[vwA,Option.some.injEq,Prod.mk.injEq]at hf
  obtain⟨rfl,rfl⟩:=hf;exact .any v
 |.c x,y,o,v,hf,ho,hx=>by
  simp only[vwA]at hf
  obtain⟨⟨y',s,o'⟩,h1,h2⟩:=Option.map_eq_some_iff.1 hf
  simp only[Prod.mk.injEq]at h2
  obtain⟨rfl,rfl⟩:=h2
  cases hx with
  |c x v hx=>exact .c _ _ (vD m hun h1 ho hx)
 |.agg cs,y,o,v,hf,ho,hx=>by
  simp only[vwA]at hf
  obtain⟨⟨y',s,o'⟩,h1,h2⟩:=Option.map_eq_some_iff.1 hf
  simp only[Prod.mk.injEq]at h2
  obtain⟨rfl,rfl⟩:=h2
  cases hx with
  |agg cs vs hs hx=>
   obtain⟨g1,g2⟩:=nC m hun (fun i=>vs.getD i undef) h1 ho hx
   exact .agg _ _ (by rw[g1];exact hs) fun i hi=>g2 i (by rw[←g1];exact hi)
 |.tup l,y,o,v,hf,ho,hx=>by
  simp only[vwA]at hf
  obtain⟨⟨y',o'⟩,h1,h2⟩:=Option.map_eq_some_iff.1 hf
  simp only[Prod.mk.injEq]at h2
  obtain⟨rfl,rfl⟩:=h2
  cases hx with
  |tup l vs hs hx=>
   obtain⟨g1,g2⟩:=AJ (fun i=>vs.getD i undef) h1 ho hx
   exact .tup _ _ (by rw[g1];exact hs) fun i hi=>g2 i (by rw[←g1];exact hi)
theorem AJ: ∀ {l l':List AV} {o:List Bool} (f:Nat→Value),vwT (Heap.get h) l=some (l',o)→(∀b∈o,b=true)→(∀i,i<l.length→AVR X w ρ (l.getD i (.tup [])) (f i))→
  l'.length=l.length∧ ∀i,i<l.length→AVR X w ρ0 (l'.getD i (.tup [])) (f i)
 |[],l',o,f,hf,_,_=>by
  simp only[vwT,Option.some.injEq,Prod.mk.injEq]at hf
  obtain⟨rfl,rfl⟩:=hf
  exact⟨rfl,fun q hq=>by simp at hq⟩
 |x::r,l',o,f,hf,ho,hx=>by
  simp only[vwT]at hf
  split at hf
  ·rename_i y o1 ys o2 e1 e2
   injection hf with hf;injection hf with h1 h2;subst h1 h2
   obtain⟨g1,g2⟩:=AJ (fun q=>f (q+1)) e2 (fun b hb=>ho b (List.mem_append_right _ hb)) (fun q hq=>by simpa using hx (q+1) (by simpa using hq))
   refine⟨by simp[g1],fun q hq=> ?_⟩
   cases q with
   |zero=>simpa using AI e1 (fun b hb=>ho b (List.mem_append_left _ hb)) (by simpa using hx 0 (by simp))
   |succ q=>simpa using g2 q (by simpa using hq)
  ·cases hf
end
end
theorem bA.views {P:Program} {f:FuncId} {args:List AV} {res res':AV} {h':List aW} {o:List Bool} (hm:bA P f args [] res h') (hv:vwA (Heap.get h') res=some (res',o)) (ho: ∀b∈o,b=true):
  bA P f args [] res' []:=by
 refine⟨hm.1,fun {X w0 ρ0} m vs hl hva=> ?_⟩
 refine Calls.mono (hm.2 m vs hl hva) ?_
 rintro e w' ⟨v,ρ',rfl,mb,im,m',hr⟩
 have hun: ∀id,ρ0 id=.unborn:=fun id=>by
  have hs:=m.slot id
  rw[Heap.get_ge (by simp)]at hs
  cases hx:ρ0 id<;>rw[hx]at hs<;>first|rfl|exact hs.elim
 have hr':=AI m' hun hv ho hr
 refine⟨v,ρ0,rfl,⟨mb.keep,mb.shape,mb.size,fun b hb=> .inl hb⟩,cB.refl _,⟨fun id=> ?_,(fun i j b hi _=>absurd (hun i) (by rw[hi];simp)),(fun id b hb=>absurd (hun id) (by rw[hb];simp)),m'.os,m'.tape,m'.output,m'.size,m'.keep,m'.foreign⟩,hr'⟩
 rw[Heap.get_ge (by simp),hun id];trivial
def fJ (tt:Tab) (ct:CT) (fn:Func) (p:i6):aN:=fun args h=>
 match aD tt ct [] 1000 fn args h p with
 |some ⟨res,h',b,[]⟩=>some (res,h',[b])
 |_=>none
theorem dZ {P:Program} {tt:Tab} (hT:iV P tt) {ct:CT} (hct:bJ P ct) (bK:P.follows .mixedOrders=true) {f:FuncId} {fn:Func} (p:i6) (hf:P.funcs[f]? =some fn)
  (hnm:(fn.name== "runtime.NumGoroutine")=false):aP P f (fJ tt ct fn p):=by
 intro args h res h' o he ho
 unfold fJ at he
 split at he
 ·rename_i r hh b e
  injection he with he;injection he with e1 e2;injection e2 with e2 e3;subst e1 e2 e3
  exact q7 hT hct bK (p:=p) hf hnm e (ho _ (List.mem_singleton.2 rfl)) (fun q hq=>by cases hq) (fun c _=>aI.nil)
 ·cases he
end
section
theorem aL (n m:Nat):zL 1 n m=m:=rfl
theorem cT.trans {m:Nat} {s t u:St} (a:cT m s t) (b:cT m t u):cT m s u:=fun X w0 ρ0 ρ ac w h0 r=>by
 obtain⟨ρ',r'⟩:=a h0 r
 exact b h0 r'
theorem aS.pre {P:Program} {m:Nat} {c:Code} {s t:St} {Q:Ex→St→Prop} (g:aS P m c t Q) (h:cT m s t):aS P m c s Q:=fun X w0 ρ0 ρ a w h0 r=>by
 obtain⟨ρ',r'⟩:=h h0 r
 exact g h0 r'
def lN (id es:Nat):List aF→Nat→List aF
 |[],_=>[]
 |x::r,0=>(match x with|.nils=> .sl id 0 0 es none|x=>x)::r
 |x::r,q+1=>x::lN id es r q
theorem vN (id es:Nat): ∀(l:List aF) (q:Nat),(lN id es l q).length=l.length
 |[],_=>rfl
 |x::r,0=>by simp[lN]
 |x::r,q+1=>by simp[lN,vN id es r q]
theorem vM (id es:Nat): ∀(l:List aF) (q i:Nat),(lN id es l q).getD i .any=l.getD i .any∨(l.getD i .any=.nils∧(lN id es l q).getD i .any=.sl id 0 0 es none)
 |[],_,i=> .inl rfl
 |x::r,0,0=>by
  cases x<;>first|exact .inl rfl|exact .inr ⟨rfl,rfl⟩
 |x::r,0,i+1=> .inl (by simp[lN])
 |x::r,q+1,0=> .inl (by simp[lN])
 |x::r,q+1,i+1=>by simpa [lN]using vM id es r q i
def nilH (r q es:Nat) (c0:Con) (s:St):St:=
 {s with heap:=(match Heap.get s.heap r with|.live (.cells cs)=>s.heap.set r (.live (.cells (lN s.heap.length es cs q)))|_=>s.heap)++[.live c0]}
section
variable {X : Nat → Prop} {w0 w : World} {ρ0 ρ : Rho}
theorem fR (w:World) {ρ:Rho} {id:Nat} (hid:ρ id=.unborn):bN w ρ w (upd ρ id .nil):=by
 refine⟨fun _ _ _=>rfl,fun _ _=>rfl,Nat.le_refl _,fun j hj=> ?_,fun j hj=> ?_,fun j b hj=> ?_,fun j b hj=> ?_⟩
 ·rw[bG _ _ (fun e=>by rw[e,hid]at hj;cases hj)];exact hj
 ·rw[bG _ _ (fun e=>by rw[e,hid]at hj;cases hj)];exact .inl hj
 ·rw[bG _ _ (fun e=>by rw[e,hid]at hj;cases hj)];exact .inl hj
 ·by_cases e:j=id
  ·subst e;rw[b8]at hj;cases hj
  ·rw[bG _ _ e]at hj;exact .inl ⟨j,hj⟩
theorem iO {id es:Nat} {v:Value} (h:CR X w ρ .nils v):CR X w (upd ρ id .nil) (.sl id 0 0 es none) v:=by
 cases h
 exact .slNone id 0 es none none (by rw[b8];simp) (fun _ h=>by cases h)
theorem Rel.nil {s:St} {a:Act} (r:Rel X w0 ρ0 s ρ a w) {c0:Con} (hc:c0.size=0) {T:List AV} {H:List aW} (hTl:T.length=s.tmps.length) (hHl:H.length=s.heap.length)
  (hT: ∀t,t<s.tmps.length→T.getD t (.tup [])=s.tmps.getD t (.tup [])∨ ∃es,s.tmps.getD t (.tup [])=.c .nils∧T.getD t (.tup [])=.c (.sl s.heap.length 0 0 es none))
  (hH: ∀id,Heap.get H id=Heap.get s.heap id∨ ∃cs cs',Heap.get s.heap id=.live (.cells cs)∧Heap.get H id=.live (.cells cs')∧cs'.length=cs.length∧
   ∀i,cs'.getD i .any=cs.getD i .any∨ ∃es,cs.getD i .any=.nils∧cs'.getD i .any=.sl s.heap.length 0 0 es none):
  Rel X w0 ρ0 ⟨T,H++[.live c0]⟩ (upd ρ s.heap.length .nil) a w:=by
 have hun:ρ s.heap.length=.unborn:=by
  have hs:=r.mem.slot s.heap.length
  rw[Heap.get_ge (Nat.le_refl _)]at hs
  cases hx:ρ s.heap.length<;>rw[hx]at hs<;>first|rfl|exact hs.elim
 have mo:=fR w hun
 refine⟨by rw[hTl];exact r.size,fun t ht=> ?_,⟨fun id=> ?_,fun i j b hi hj=> ?_,fun id b hb=> ?_,r.mem.os,r.mem.tape,r.mem.output,r.mem.size,r.mem.keep,r.mem.foreign⟩,r.defers,
  r.mono.trans mo.toB,r.ids.trans mo.ids⟩
 ·dsimp only at ht⊢
  rw[hTl]at ht
  rcases hT t ht with e|⟨es,e1,e2⟩
  ·rw[e];exact(r.tmps t ht).mono mo
  ·have h:=r.tmps t ht
   rw[e1]at h
   rw[e2]
   cases h with
   |c x v h=>exact .c _ _ (iO h)
 ·by_cases e:id=s.heap.length
  ·subst e
   have:Heap.get (H++[.live c0]) s.heap.length=.live c0:=by
    unfold Heap.get
    rw[List.getD_eq_getElem?_getD,List.getElem?_append_right (by omega),hHl];simp
   rw[this,b8];exact hc
  ·have hg:Heap.get (H++[.live c0]) id=Heap.get H id:=by
    unfold Heap.get
    rw[List.getD_eq_getElem?_getD,List.getD_eq_getElem?_getD,List.getElem?_append]
    split
    ·rfl
    ·rw[List.getElem?_eq_none (l:=H) (by omega),List.getElem?_eq_none (by simp;omega)]
   rw[hg,bG _ _ e]
   have hs:=r.mem.slot id
   rcases hH id with e1|⟨cs,cs',e1,e2,e3,e4⟩
   ·rw[e1];exact hs.mono mo fun _ _=>rfl
   ·rw[e1]at hs
    rw[e2]
    cases hx:ρ id with
    |unborn=>rw[hx]at hs;exact hs.elim
    |dead=>rw[hx]at hs;exact hs.elim
    |nil=>rw[hx]at hs;simp only[dT,Con.size]at hs⊢;omega
    |row b=>
     rw[hx]at hs
     obtain⟨vs,ty,h1,h2,h3⟩:=hs
     refine⟨vs,ty,h1,by simp only[Con.size]at h2⊢;omega,fun q hq=> ?_⟩
     have h:=h3 q (by simp only[Con.size]at hq⊢;omega)
     simp only[Con.cell]at h⊢
     rcases e4 q with e5|⟨es,e5,e6⟩
     ·rw[e5];exact h.mono mo
     ·rw[e5]at h;rw[e6];exact iO h
 ·by_cases e:i=s.heap.length
  ·subst e;rw[b8]at hi;cases hi
  ·by_cases e':j=s.heap.length
   ·subst e';rw[b8]at hj;cases hj
   ·rw[bG _ _ e]at hi;rw[bG _ _ e']at hj
    exact r.mem.inj i j b hi hj
 ·by_cases e:id=s.heap.length
  ·subst e;rw[b8]at hb;cases hb
  ·rw[bG _ _ e]at hb;exact r.mem.own id b hb
theorem cT.nilH (m r q es:Nat) (c0:Con) (hc:c0.size=0) (s:St):cT m s (Am.nilH r q es c0 s):=fun X w0 ρ0 ρ a w h0 rl=>by
 refine⟨_,Rel.nil rl hc rfl ?_ (fun t ht=> .inl rfl) (fun id=> ?_)⟩
 ·split<;>simp
 ·split
  ·rename_i cs hg
   rw[Heap.get_set]
   by_cases e:id=r∧r<s.heap.length
   ·rw[if_pos e]
    obtain⟨rfl,hlt⟩:=e
    refine .inr ⟨cs,_,hg,rfl,vN _ _ _ _,fun i=> ?_⟩
    rcases vM s.heap.length es cs q i with h|⟨h1,h2⟩
    ·exact .inl h
    ·exact .inr ⟨es,h1,h2⟩
   ·rw[if_neg e];exact .inl rfl
  ·exact .inl rfl
end
end
section
def T16:List bD:=[⟨183,[],BE⟩]++T15
theorem e16:a6 Tryz.prog T16:=by
 refine a6.append ?_ e15
 intro e he
 simp only[List.mem_cons,List.not_mem_nil,or_false]at he
 subst he;exact a6D
theorem t16:bJ Tryz.prog (a9 T16):=aM e16
def ldK (xs:List Int) (i:Nat):Int:=cR (fun x=>x !=0) [xs.getD (i*12) 0,xs.getD (i*12+1) 0,xs.getD (i*12+2) 0,xs.getD (i*12+3) 0]
def cK (xs:List Int) (i:Nat) (k:List Int):Int:=[k.getD 0 0,k.getD 1 0,k.getD 2 0,k.getD 3 0,k.getD 4 0,k.getD 5 0,k.getD 6 0,k.getD 7 0,k.getD 8 0,k.getD 9 0,k.getD 10 0,k.getD 11 0].getD (ldK xs i).toNat 0
def vL (xs:List Int) (i:Nat) (k:List Int) (j:Nat):Int:=(k.getD j 0+xs.getD (i*12+j) 0*cK xs i k%31*30%31)%31
def lM (xs:List Int) (i:Nat) (k:List Int) (j:Nat):Int:=(k.getD j 0-xs.getD (i*12+j) 0*cK xs i k%31)%31
def zH (xs:List Int) (i:Nat) (k:List Int):List Int:=[vL xs i k 0,vL xs i k 1,vL xs i k 2,vL xs i k 3,lM xs i k 4,lM xs i k 5,lM xs i k 6,lM xs i k 7,lM xs i k 8,lM xs i k 9,lM xs i k 10,lM xs i k 11]
def oY (xs:List Int):Nat→Nat→List Int→List Int
 |0,_,k=>k
 |m+1,i,k=>oY xs m (i+1) (zH xs i k)
def fQ (xs:List Int) (n:Nat) (k:List Int):List Int:=oY xs n 0 k
noncomputable abbrev f181:=Tryz.f213
noncomputable def yF (n m:Nat) (xs ps:List Int) (i:Int) (k:List Int):St:=
 aY f181.ntmps [(3,.c (.ptr 3 0 0 0)),(4,.c (.ptr 4 0 0 0)),(12,.c (.sl 1 0 n 12 none)),(13,.c (.int .i64 n)),(14,.c (.int .i64 i))]
  [.live (.cells [.sl 1 0 n 12 none,.sl 2 0 m 1 none]),.live (.ints .i64 xs),.live (.ints .i64 ps),.live (.ints .i64 [k.getD 0 0,k.getD 1 0,k.getD 2 0,k.getD 3 0,k.getD 4 0,k.getD 5 0,k.getD 6 0,k.getD 7 0,k.getD 8 0,k.getD 9 0,k.getD 10 0,k.getD 11 0]),.live (.ints .i64 [0,0,0,0,0,0,0,0,0,0,0,0])]
noncomputable def KT (n m:Nat) (xs ps:List Int) (k:List Int):St:=
 aY f181.ntmps [(3,.c (.ptr 3 0 0 0)),(4,.c (.ptr 4 0 0 0))]
  [.live (.cells [.sl 1 0 n 12 none,.sl 2 0 m 1 none]),.live (.ints .i64 xs),.live (.ints .i64 ps),.live (.ints .i64 [k.getD 0 0,k.getD 1 0,k.getD 2 0,k.getD 3 0,k.getD 4 0,k.getD 5 0,k.getD 6 0,k.getD 7 0,k.getD 8 0,k.getD 9 0,k.getD 10 0,k.getD 11 0]),.live (.ints .i64 [0,0,0,0,0,0,0,0,0,0,0,0])]
theorem SM (n m:Nat) (xs ps:List Int) (i:Int) (k:List Int):aC 3 (a8 f181 0) (aA f181 0) (aG tt (a9 T16) [] 3 100 (a0 0 (a5 f181)) (yF n m xs ps i k) [(0,true)])=
  some (.normal,(decide (i< ↑n)&&(decide (0≤i)&&(decide (i< ↑n)&&(decide (i.toNat*12+12≤xs.length)&&(decide (0≤ldK xs i.toNat)&&(decide (ldK xs i.toNat<4)&&(decide ((ldK xs i.toNat).toNat<[k.getD 0 0,k.getD 1 0,k.getD 2 0,k.getD 3 0,k.getD 4 0,k.getD 5 0,k.getD 6 0,k.getD 7 0,k.getD 8 0,k.getD 9 0,k.getD 10 0,k.getD 11 0].length)&&(fok (xs.getD (i.toNat*12) 0)&&(fok (cK xs i.toNat k)&&(fok (xs.getD (i.toNat*12+1) 0)&&(fok (cK xs i.toNat k)&&(fok (xs.getD (i.toNat*12+2) 0)&&(fok (cK xs i.toNat k)&&(fok (xs.getD (i.toNat*12+3) 0)&&(fok (cK xs i.toNat k)&&(fok (k.getD 0 0)&&(fok (xs.getD (i.toNat*12) 0*cK xs i.toNat k%31)&&(fok (k.getD 1 0)&&(fok (xs.getD (i.toNat*12+1) 0*cK xs i.toNat k%31)&&(fok (k.getD 2 0)&&(fok (xs.getD (i.toNat*12+2) 0*cK xs i.toNat k%31)&&(fok (k.getD 3 0)&&(fok (xs.getD (i.toNat*12+3) 0*cK xs i.toNat k%31)&&(fok (xs.getD (i.toNat*12+4) 0)&&(fok (cK xs i.toNat k)&&(fok (k.getD 4 0)&&(fok (xs.getD (i.toNat*12+4) 0*cK xs i.toNat k%31)&&(fok (xs.getD (i.toNat*12+5) 0)&&(fok (cK xs i.toNat k)&&(fok (k.getD 5 0)&&(fok (xs.getD (i.toNat*12+5) 0*cK xs i.toNat k%31)&&(fok (xs.getD (i.toNat*12+6) 0)&&(fok (cK xs i.toNat k)&&(fok (k.getD 6 0)&&(fok (xs.getD (i.toNat*12+6) 0*cK xs i.toNat k%31)&&(fok (xs.getD (i.toNat*12+7) 0)&&(fok (cK xs i.toNat k)&&(fok (k.getD 7 0)&&(fok (xs.getD (i.toNat*12+7) 0*cK xs i.toNat k%31)&&(fok (xs.getD (i.toNat*12+8) 0)&&(fok (cK xs i.toNat k)&&(fok (k.getD 8 0)&&(fok (xs.getD (i.toNat*12+8) 0*cK xs i.toNat k%31)&&(fok (xs.getD (i.toNat*12+9) 0)&&(fok (cK xs i.toNat k)&&(fok (k.getD 9 0)&&(fok (xs.getD (i.toNat*12+9) 0*cK xs i.toNat k%31)&&(fok (xs.getD (i.toNat*12+10) 0)&&(fok (cK xs i.toNat k)&&(fok (k.getD 10 0)&&(fok (xs.getD (i.toNat*12+10) 0*cK xs i.toNat k%31)&&(fok (xs.getD (i.toNat*12+11) 0)&&(fok (cK xs i.toNat k)&&(fok (k.getD 11 0)&&((fok (xs.getD (i.toNat*12+11) 0*cK xs i.toNat k%31))&&true))))))))))))))))))))))))))))))))))))))))))))))))))))))),[],yF n m xs ps (IntKind.i64.wrap (i+1)) (zH xs i.toNat k)):=by kernel_rfl
theorem SN (n m:Nat) (xs ps:List Int) (i:Int) (k:List Int):aC 3 (a8 f181 0) (aA f181 0) (aG tt (a9 T16) [] 3 100 (a0 0 (a5 f181)) (yF n m xs ps i k) [(0,false)])=
  some (.exit 0,((!decide (i< ↑n))&&true),[],KT n m xs ps k):=by kernel_rfl
def hP (xs:List Int) (n:Nat):Bool:=c7 (fun i=>bet (ldK xs i) 0 3) n
theorem a50 (n m:Nat) (xs ps:List Int) (k:List Int) (hn:n≤274877906944) (hx:xs.length=n*12) (hf:a7 xs=true) (hk:a7 k=true) (hl:hP xs n=true):
  aS Tryz.prog 3 (.block 0 (.loop (a0 0 (a5 f181)))) (yF n m xs ps 0 k) fun e t=>e=.normal∧t=KT n m xs ps (fQ xs n k):=by
 refine aS.roundsN hT t16 bK (m:=3) (id:=0) (body:=a0 0 (a5 f181)) (α:=Nat×List Int)
  (fun x=>x.1≤n∧a7 x.2=true∧oY xs (n-x.1) x.1 x.2=fQ xs n k) (fun x=>yF n m xs ps x.1 x.2) (fun x=>n-x.1) (a8 f181 0) (aA f181 0)
  (fun _=>KT n m xs ps (fQ xs n k)) (fun _=>[]) (fun _ _=>aI.nil) (fun x hx=> ?_) (0,k) ⟨by simp,hk,rfl⟩
 obtain⟨i,k⟩:=x
 obtain⟨h1,h2,h3⟩:=hx
 dsimp only at h1 h2 h3⊢
 by_cases hi:i<n
 ·have hkk:n-i=(n-(i+1))+1:=by omega
  rw[hkk]at h3
  simp only[oY]at h3
  have hld:bet (ldK xs i) 0 3=true:=aV hl i hi
  have hld':=hld
  simp only[bet,Bool.and_eq_true,rpS,decide_eq_true_eq]at hld'
  have hc:fok (cK xs i k)=true:=aO (v:=[k.getD 0 0,k.getD 1 0,k.getD 2 0,k.getD 3 0,k.getD 4 0,k.getD 5 0,k.getD 6 0,k.getD 7 0,k.getD 8 0,k.getD 9 0,k.getD 10 0,k.getD 11 0]) (by simp[a7,aO h2,-List.getD_eq_getElem?_getD]) _
  refine⟨_,_,_,_,_,_,SM n m xs ps i k, ?_,by simp,.inl ⟨rfl,(i+1,zH xs i k),⟨by omega, ?_,h3⟩,by dsimp only;omega, ?_,rfl⟩⟩
  ·rw[Int.toNat_natCast]
   simp only[aO hf,aO h2,bY,hc,Bool.true_and,rpS,Bool.and_true,Bool.and_eq_true,decide_eq_true_eq,List.length_cons,List.length_nil]
   omega
  ·simp only[a7,zH,vL,lM,List.all_cons,List.all_nil,bY,Bool.and_self]
  ·rw[aB (by omega) (by omega),Int.toNat_natCast];rfl
 ·have hz:n-i=0:=by omega
  rw[hz]at h3
  simp only[oY]at h3
  exact⟨_,_,_,_,_,_,SN n m xs ps i k,by simp;omega,by simp,.inr ⟨rfl,by rw[h3]⟩⟩
def PW (k:List Int):List aF:=[.int .i64 (k.getD 0 0),.int .i64 (k.getD 1 0),.int .i64 (k.getD 2 0),.int .i64 (k.getD 3 0),.int .i64 (k.getD 4 0),.int .i64 (k.getD 5 0),.int .i64 (k.getD 6 0),.int .i64 (k.getD 7 0),.int .i64 (k.getD 8 0),.int .i64 (k.getD 9 0),.int .i64 (k.getD 10 0),.int .i64 (k.getD 11 0)]
def B1:aN:=fun args h=>
 match args,h with
 |[.c (.ptr 0 0 0 0),.agg [.int .i64 k0,.int .i64 k1,.int .i64 k2,.int .i64 k3,.int .i64 b0,.int .i64 b1,.int .i64 b2,.int .i64 b3,.int .i64 b4,.int .i64 b5,.int .i64 b6,.int .i64 b7]],[.live (.cells [.sl 1 0 n 12 none,.sl 2 0 m 1 none]),.live (.ints .i64 xs),.live (.ints .i64 ps)]=>
  some (.agg (PW (fQ xs n [k0,k1,k2,k3,b0,b1,b2,b3,b4,b5,b6,b7])),[.live (.cells [.sl 1 0 n 12 none,.sl 2 0 m 1 none]),.live (.ints .i64 xs),.live (.ints .i64 ps)],[decide (n≤274877906944),decide (xs.length=n*12),a7 xs,a7 [k0,k1,k2,k3,b0,b1,b2,b3,b4,b5,b6,b7],hP xs n])
 |_,_=>none
theorem a6O:aP Tryz.prog 213 B1:=by
 intro args h res h' o he ho
 unfold B1 at he
 split at he
 case h_2=>cases he
 rename_i k0 k1 k2 k3 b0 b1 b2 b3 b4 b5 b6 b7 n m xs ps
 simp only[Option.some.injEq,Prod.mk.injEq]at he
 obtain⟨rfl,rfl,rfl⟩:=he
 simp only[List.mem_cons,List.not_mem_nil,or_false,forall_eq_or_imp,forall_eq,decide_eq_true_eq]at ho
 obtain⟨o1,o2,o3,o4,o5⟩:=ho
 exact cG t16 (fn:=f181) (lc:=[(0,⟨a8 f181 0,yF n m xs ps 0 [k0,k1,k2,k3,b0,b1,b2,b3,b4,b5,b6,b7],.normal,KT n m xs ps (fQ xs n [k0,k1,k2,k3,b0,b1,b2,b3,b4,b5,b6,b7])⟩)]) (fuel:=100) (p:=[])
  (o:=⟨_,_,true,[yF n m xs ps 0 [k0,k1,k2,k3,b0,b1,b2,b3,b4,b5,b6,b7]=yF n m xs ps 0 [k0,k1,k2,k3,b0,b1,b2,b3,b4,b5,b6,b7]]⟩)
  (by kernel_rfl) (by kernel_rfl) (by kernel_rfl) rfl (by simp) (fun cc hc=>aI.cons (c:=cc) (by cases hc;kernel_rfl) (by cases hc;exact a50 n m xs ps _ o1 o2 o3 o4 o5) aI.nil)
end
section
def T17:List bD:=[⟨213,[0],B1⟩]++T16
theorem e17:a6 Tryz.prog T17:=by
 refine a6.append ?_ e16
 intro e he
 simp only[List.mem_cons,List.not_mem_nil,or_false]at he
 subst he;exact a6O
theorem t17:bJ Tryz.prog (a9 T17):=aM e17
noncomputable abbrev f161:=Tryz.f184
def HT (xs:List Int) (i:Nat):List Int:=[xs.getD (i*4+0) 0,xs.getD (i*4+1) 0,xs.getD (i*4+2) 0,xs.getD (i*4+3) 0,if i=0 then 1 else 0,if i=1 then 1 else 0,if i=2 then 1 else 0,if i=3 then 1 else 0,if i=4 then 1 else 0,if i=5 then 1 else 0,if i=6 then 1 else 0,if i=7 then 1 else 0]
def KK (xs ys:List Int) (r i:Nat):List Int:=fQ ys r (HT xs i)
def ld4 (k:List Int):Int:=cR (fun x=>x !=0) [k.getD 0 0,k.getD 1 0,k.getD 2 0,k.getD 3 0]
def at4 (k:List Int):Int:=[k.getD 0 0,k.getD 1 0,k.getD 2 0,k.getD 3 0,k.getD 4 0,k.getD 5 0,k.getD 6 0,k.getD 7 0,k.getD 8 0,k.getD 9 0,k.getD 10 0,k.getD 11 0].getD (ld4 k).toNat 0
def cI (k:List Int):Int:=inv (at4 k)
def oneK (k:List Int):List Int:=[k.getD 0 0*cI k%31,k.getD 1 0*cI k%31,k.getD 2 0*cI k%31,k.getD 3 0*cI k%31,k.getD 4 0*cI k%31,k.getD 5 0*cI k%31,k.getD 6 0*cI k%31,k.getD 7 0*cI k%31,k.getD 8 0*cI k%31,k.getD 9 0*cI k%31,k.getD 10 0*cI k%31,k.getD 11 0*cI k%31]
def eX (xs:List Int):Nat→Nat→List Int×List Int→List Int×List Int
 |0,_,s=>s
 |f+1,i,s=>eX xs f (i+1) (bif decide (ld4 (KK xs s.1 s.2.length i)<0)then s else(s.1++oneK (KK xs s.1 s.2.length i),s.2++[(i:Int)]))
def cH (xs:List Int) (n:Nat):List Int×List Int:=eX xs n 0 ([],[])
noncomputable def BR (n:Nat) (xs:List Int) (r m:Nat) (ys ps:List Int) (i:Int):St:=
 aY f161.ntmps [(3,.c (.ptr 0 0 0 0)),(12,.c (.view none (.ints .i64 xs) n 4 none)),(13,.c (.int .i64 n)),(14,.c (.int .i64 i))]
  [.live (.cells [.sl 1 0 r 12 none,.sl 2 0 m 1 none]),.live (.ints .i64 ys),.live (.ints .i64 ps)]
noncomputable def KQ (r m:Nat) (ys ps:List Int):St:=
 aY f161.ntmps [(3,.c (.ptr 0 0 0 0))] [.live (.cells [.sl 1 0 r 12 none,.sl 2 0 m 1 none]),.live (.ints .i64 ys),.live (.ints .i64 ps)]
section
variable (n : Nat) (xs : List Int) (r m : Nat) (ys ps : List Int)
theorem SF (i:Nat) (hi:i<8):aC 0 (a8 f161 0) (aA f161 0) (aG tt (a9 T17) [] 0 100 (a0 0 (a5 f161)) (BR n xs r m ys ps i) [(0,true),(0,true)])=
  some (.normal,(rp2 (decide ((i:Int)<n)) (decide (i*4+4≤xs.length)&&(decide (r≤274877906944)&&(decide (ys.length=r*12)&&(a7 ys&&(a7 (HT xs i)&&(hP ys r&&(decide (ld4 (KK xs ys r i)<0)&&true)))))))),[],BR n xs r m ys ps (i+1:Nat)):=
 match i,hi with
 |0,_=>by kernel_rfl
 |1,_=>by kernel_rfl
 |2,_=>by kernel_rfl
 |3,_=>by kernel_rfl
 |4,_=>by kernel_rfl
 |5,_=>by kernel_rfl
 |6,_=>by kernel_rfl
 |7,_=>by kernel_rfl
theorem SG (i:Nat) (hi:i<8):aC 0 (a8 f161 0) (aA f161 0) (aG tt (a9 T17) [] 0 100 (a0 0 (a5 f161)) (BR n xs r m ys ps i) [(0,true),(0,false)])=
  some (.normal,(rp2 (decide ((i:Int)<n)) (decide (i*4+4≤xs.length)&&(decide (r≤274877906944)&&(decide (ys.length=r*12)&&(a7 ys&&(a7 (HT xs i)&&(hP ys r&&(!decide (ld4 (KK xs ys r i)<0)&&(decide (0≤ld4 (KK xs ys r i))&&(decide (ld4 (KK xs ys r i)<4)&&(decide ((ld4 (KK xs ys r i)).toNat<12)&&(fok (at4 (KK xs ys r i))&&(fok ((KK xs ys r i).getD 0 0)&&(fok (cI (KK xs ys r i))&&(fok ((KK xs ys r i).getD 1 0)&&(fok (cI (KK xs ys r i))&&(fok ((KK xs ys r i).getD 2 0)&&(fok (cI (KK xs ys r i))&&(fok ((KK xs ys r i).getD 3 0)&&(fok (cI (KK xs ys r i))&&(fok ((KK xs ys r i).getD 4 0)&&(fok (cI (KK xs ys r i))&&(fok ((KK xs ys r i).getD 5 0)&&(fok (cI (KK xs ys r i))&&(fok ((KK xs ys r i).getD 6 0)&&(fok (cI (KK xs ys r i))&&(fok ((KK xs ys r i).getD 7 0)&&(fok (cI (KK xs ys r i))&&(fok ((KK xs ys r i).getD 8 0)&&(fok (cI (KK xs ys r i))&&(fok ((KK xs ys r i).getD 9 0)&&(fok (cI (KK xs ys r i))&&(fok ((KK xs ys r i).getD 10 0)&&(fok (cI (KK xs ys r i))&&(fok ((KK xs ys r i).getD 11 0)&&(fok (cI (KK xs ys r i))&&(decide (r*12=ys.length)&&(decide (r+1≤274877906944)&&(decide (m=ps.length)&&(decide (m+1≤274877906944)&&true)))))))))))))))))))))))))))))))))))))))),[],BR n xs (r+1) (m+1) (ys++oneK (KK xs ys r i)) (ps++[(i:Int)]) (i+1:Nat)):=
 match i,hi with
 |0,_=>by kernel_rfl
 |1,_=>by kernel_rfl
 |2,_=>by kernel_rfl
 |3,_=>by kernel_rfl
 |4,_=>by kernel_rfl
 |5,_=>by kernel_rfl
 |6,_=>by kernel_rfl
 |7,_=>by kernel_rfl
theorem SH (i:Int):aC 0 (a8 f161 0) (aA f161 0) (aG tt (a9 T17) [] 0 100 (a0 0 (a5 f161)) (BR n xs r m ys ps i) [(0,false)])=
  some (.exit 0,(!decide (i<n)&&true),[],KQ r m ys ps):=by kernel_rfl
end
theorem W9 (a b c d:Int):cR (fun x=>x !=0) [a,b,c,d]=if a≠0 then 0 else if b≠0 then 1 else if c≠0 then 2 else if d≠0 then 3 else -1:=by
 have e: ∀x:Int,x=0∨(x≠0∧(x !=0)=true):=fun x=>by
  by_cases h:x=0
  ·exact .inl h
  ·exact .inr ⟨h,bne_iff_ne.2 h⟩
 unfold cR dQ
 rcases e a with ha|⟨ha,ha'⟩
 ·subst ha
  rcases e b with hb|⟨hb,hb'⟩
  ·subst hb
   rcases e c with hc|⟨hc,hc'⟩
   ·subst hc
    rcases e d with hd|⟨hd,hd'⟩
    ·subst hd;rfl
    ·simp[dA,hd,hd',-bne_iff_ne]
   ·simp[dA,hc,hc',-bne_iff_ne]
  ·simp[dA,hb,hb',-bne_iff_ne]
 ·simp[dA,ha,ha',-bne_iff_ne]
theorem LK {a b c d:Int} (h:a≠0∨b≠0∨c≠0∨d≠0):bet (cR (fun x=>x !=0) [a,b,c,d]) 0 3=true:=by
 rw[W9]
 by_cases ha:a=0<;>by_cases hb:b=0<;>by_cases hc:c=0<;>by_cases hd:d=0<;>simp[ha,hb,hc,hd,bet]at h⊢
theorem vI {k:List Int} (h:0≤ld4 k):(ld4 k=0∧k.getD 0 0≠0)∨(ld4 k=1∧k.getD 1 0≠0)∨(ld4 k=2∧k.getD 2 0≠0)∨(ld4 k=3∧k.getD 3 0≠0):=by
 unfold ld4 at h⊢
 rw[W9]at h⊢
 generalize k.getD 0 0=a at*
 generalize k.getD 1 0=b at*
 generalize k.getD 2 0=c at*
 generalize k.getD 3 0=d at*
 by_cases ha:a=0<;>by_cases hb:b=0<;>by_cases hc:c=0<;>by_cases hd:d=0<;>simp[ha,hb,hc,hd]at h⊢
theorem sS (xs:List Int): ∀(m i:Nat) (k:List Int),a7 k=true→a7 (oY xs m i k)=true
 |0,_,_,h=>h
 |m+1,i,k,h=>sS xs m (i+1) _ (by simp only[a7,zH,vL,lM,List.all_cons,List.all_nil,bY,Bool.and_self])
theorem sO {xs:List Int} (h:a7 xs=true) (i:Nat):a7 (HT xs i)=true:=by
 have e: ∀j,fok (if i=j then 1 else 0)=true:=fun j=>by split<;>rfl
 simp only[a7,HT,List.all_cons,List.all_nil,aO h,e,Bool.and_self]
theorem GJ {xs:List Int} (h:a7 xs=true) (ys:List Int) (r i:Nat):a7 (KK xs ys r i)=true:=sS ys r 0 _ (sO h i)
theorem rE (n:Int):fok (inv n)=true:=by
 unfold inv
 exact aO (v:=[0,1,16,21,8,25,26,9,4,7,28,17,13,12,20,29,2,11,19,18,14,3,24,27,22,5,6,23,10,15,30]) rfl _
theorem nE {n:Int} (h:fok n=true) (h0:n≠0):n*inv n%31=1:=by
 have key:=LV (q:=fun n=>(decide (n≠0)→n*inv n%31=1)) (fun k hk=>by
  have all:c7 (fun k=> !decide ((k:Int)≠0)||decide ((k:Int)*inv k%31=1)) 31=true:=by kernel_rfl
  have:=aV all k hk
  simp only[Bool.or_eq_true,Bool.not_eq_true',decide_eq_false_iff_not,decide_eq_true_eq]at this
  intro h
  rcases this with h'|h'
  ·simp at h;omega
  ·exact h') h
 exact key (by simpa using h0)
theorem KW {k:List Int} (h:a7 k=true):fok (at4 k)=true:=by
 unfold at4
 exact aO (v:=[k.getD 0 0,k.getD 1 0,k.getD 2 0,k.getD 3 0,k.getD 4 0,k.getD 5 0,k.getD 6 0,k.getD 7 0,k.getD 8 0,k.getD 9 0,k.getD 10 0,k.getD 11 0])
  (by simp only[a7,List.all_cons,List.all_nil,aO h,Bool.and_self]) _
theorem zN (k:List Int):a7 (oneK k)=true:=by simp only[a7,oneK,List.all_cons,List.all_nil,bY,Bool.and_self]
theorem t0 (k:List Int):(oneK k).length=12:=rfl
theorem ET {k:List Int} (hk:a7 k=true) (h:0≤ld4 k):bet (cR (fun x=>x !=0) [(oneK k).getD 0 0,(oneK k).getD 1 0,(oneK k).getD 2 0,(oneK k).getD 3 0]) 0 3=true:=by
 refine LK ?_
 have e: ∀j,j<12→(oneK k).getD j 0=k.getD j 0*cI k%31:=fun j hj=>by
  match j,hj with
  |0,_|1,_|2,_|3,_|4,_|5,_|6,_|7,_|8,_|9,_|10,_|11,_=>rfl
 rw[e 0 (by omega),e 1 (by omega),e 2 (by omega),e 3 (by omega)]
 rcases vI h with⟨h1,h2⟩|⟨h1,h2⟩|⟨h1,h2⟩|⟨h1,h2⟩
 ·have hc:cI k=inv (k.getD 0 0):=by unfold cI at4;rw[h1];rfl
  exact .inl (by rw[hc,nE (aO hk _) h2];decide)
 ·have hc:cI k=inv (k.getD 1 0):=by unfold cI at4;rw[h1];rfl
  exact .inr (.inl (by rw[hc,nE (aO hk _) h2];decide))
 ·have hc:cI k=inv (k.getD 2 0):=by unfold cI at4;rw[h1];rfl
  exact .inr (.inr (.inl (by rw[hc,nE (aO hk _) h2];decide)))
 ·have hc:cI k=inv (k.getD 3 0):=by unfold cI at4;rw[h1];rfl
  exact .inr (.inr (.inr (by rw[hc,nE (aO hk _) h2];decide)))
theorem dV (xs ys:List Int) (i:Nat):(xs++ys).getD i 0=if i<xs.length then xs.getD i 0 else ys.getD (i-xs.length) 0:=by
 rw[List.getD_eq_getElem?_getD,List.getElem?_append]
 split<;>rw[List.getD_eq_getElem?_getD]
theorem mP {f:Nat→Bool}: ∀ {n:Nat},(∀k,k<n→f k=true)→c7 f n=true
 |0,_=>rfl
 |n+1,h=>by simp only[c7,Bool.and_eq_true,rpS];exact⟨h n (by omega),mP fun k hk=>h k (by omega)⟩
theorem eE {xs ys:List Int} (h:a7 xs=true) (h':a7 ys=true):a7 (xs++ys)=true:=by
 simp only[a7,List.all_append,Bool.and_eq_true,rpS]at h h'⊢;exact⟨h,h'⟩
theorem vJ {ys:List Int} {r:Nat} (hl:ys.length=r*12) (h:hP ys r=true) {k:List Int} (hk:a7 k=true) (h0:0≤ld4 k):hP (ys++oneK k) (r+1)=true:=by
 refine mP fun i hi=> ?_
 by_cases e:i=r
 ·subst e
  have:=ET hk h0
  unfold ldK
  rw[dV,dV,dV,dV,if_neg (by omega),if_neg (by omega),if_neg (by omega),if_neg (by omega)]
  rw[hl,Nat.sub_self,Nat.add_sub_cancel_left,Nat.add_sub_cancel_left,Nat.add_sub_cancel_left]
  exact this
 ·have:=aV h i (by omega)
  unfold ldK at this⊢
  rw[dV,dV,dV,dV,if_pos (by omega),if_pos (by omega),if_pos (by omega),if_pos (by omega)]
  exact this
theorem a4X (n:Nat) (xs:List Int) (hn:n≤8) (hx:xs.length=n*4) (hf:a7 xs=true):
  aS Tryz.prog 0 (.block 0 (.loop (a0 0 (a5 f161)))) (BR n xs 0 0 [] [] 0) fun e t=>e=.normal∧t=KQ (cH xs n).2.length (cH xs n).2.length (cH xs n).1 (cH xs n).2:=by
 refine aS.roundsN hT t17 bK (m:=0) (id:=0) (body:=a0 0 (a5 f161)) (α:=Nat×List Int×List Int)
  (fun x=>x.1≤n∧x.2.2.length≤x.1∧x.2.1.length=x.2.2.length*12∧a7 x.2.1=true∧hP x.2.1 x.2.2.length=true∧eX xs (n-x.1) x.1 x.2=cH xs n)
  (fun x=>BR n xs x.2.2.length x.2.2.length x.2.1 x.2.2 x.1) (fun x=>n-x.1) (a8 f161 0) (aA f161 0)
  (fun _=>KQ (cH xs n).2.length (cH xs n).2.length (cH xs n).1 (cH xs n).2) (fun _=>[]) (fun _ _=>aI.nil) (fun x hx=> ?_) (0,[],[]) ⟨by simp,by simp,rfl,rfl,rfl,rfl⟩
 obtain⟨i,ys,ps⟩:=x
 obtain⟨h1,h2,h3,h4,h5,h6⟩:=hx
 dsimp only at h1 h2 h3 h4 h5 h6⊢
 by_cases hi:i<n
 ·have hkk:n-i=(n-(i+1))+1:=by omega
  rw[hkk]at h6
  simp only[eX]at h6
  have hK:=GJ hf ys ps.length i
  by_cases hz:ld4 (KK xs ys ps.length i)<0
  ·rw[decide_eq_true hz,cond_true]at h6
   refine⟨_,_,_,_,_,_,SF n xs ps.length ps.length ys ps i (by omega), ?_,by simp,.inl ⟨rfl,(i+1,ys,ps),⟨by omega,by dsimp only;omega,h3,h4,h5,h6⟩,by dsimp only;omega,rfl,rfl⟩⟩
   simp only[h4,h5,sO hf,Bool.and_true,rpS,Bool.true_and,Bool.and_eq_true,decide_eq_true_eq]
   omega
  ·rw[decide_eq_false hz,cond_false]at h6
   have h0:0≤ld4 (KK xs ys ps.length i):=by omega
   have hb:ld4 (KK xs ys ps.length i)≤3:=by rcases vI h0 with h|h|h|h<;>omega
   refine⟨_,_,_,_,_,_,SG n xs ps.length ps.length ys ps i (by omega), ?_,by simp,
    .inl ⟨rfl,(i+1,ys++oneK (KK xs ys ps.length i),ps++[(i:Int)]),⟨by omega,by simp;omega,by simp[t0];omega,eE h4 (zN _), ?_,h6⟩,by dsimp only;omega, ?_,rfl⟩⟩
   ·simp only[h4,h5,sO hf,aO hK,KW hK,cI,rE,Bool.and_true,rpS,Bool.true_and,Bool.and_eq_true,decide_eq_true_eq,Bool.not_eq_true',decide_eq_false_iff_not,true_and,and_true]
    omega
   ·dsimp only;rw[List.length_append];exact vJ h3 h5 hK h0
   ·dsimp only;rw[List.length_append];rfl
 ·have hz:n-i=0:=by omega
  rw[hz]at h6
  simp only[eX]at h6
  exact⟨_,_,_,_,_,_,SH n xs ps.length ps.length ys ps i,by simp;omega,by simp,.inr ⟨rfl,by rw[←h6]⟩⟩
noncomputable def K8 (n:Nat) (xs:List Int):St:=
 aY f161.ntmps [(3,.c (.ptr 0 0 0 0)),(12,.c (.view none (.ints .i64 xs) n 4 none)),(13,.c (.int .i64 n)),(14,.c (.int .i64 0))] [.live (.cells [.nils,.nils])]
def BJ:aN:=fun args h=>
 match args,h with
 |[.c (.view _ (.ints .i64 xs) n 4 _)],[]=>
  some (.c (.ptr 0 0 0 0),[.live (.cells [.sl 1 0 (cH xs n).2.length 12 none,.sl 2 0 (cH xs n).2.length 1 none]),.live (.ints .i64 (cH xs n).1),.live (.ints .i64 (cH xs n).2)],[decide (n≤8),a7 xs])
 |_,_=>none
theorem a6E:aT Tryz.prog 184 BJ:=by
 intro args h res h' o hnorm he ho
 unfold BJ at he
 split at he
 case h_2=>cases he
 rename_i nl xs n cap
 simp only[Option.some.injEq,Prod.mk.injEq]at he
 obtain⟨rfl,rfl,rfl⟩:=he
 simp only[List.mem_cons,List.not_mem_nil,or_false,forall_eq_or_imp,forall_eq,decide_eq_true_eq]at ho
 obtain⟨o1,o2⟩:=ho
 simp only[bE,AV.norm,bF,aF.norm,Con.size,List.cons.injEq,AV.c.injEq,AV.agg.injEq,aF.view.injEq,aL,true_and,and_true]at hnorm
 obtain⟨hn1,hn2,hn3⟩:=hnorm
 refine bA.len ⟨f161,by kernel_rfl,by kernel_rfl,by kernel_rfl⟩ fun hlen=> ?_
 simp only[List.mem_cons,List.not_mem_nil,or_false,forall_eq,AV.lenOk,aF.lenOk,Con.size]at hlen
 subst hn1 hn3
 have g:=(a4X n xs o1 hlen.symm o2).pre (s:=K8 n xs) ((cT.nilH 0 0 0 12 (.ints .i64 []) rfl _).trans (cT.nilH 0 0 1 1 (.ints .i64 []) rfl _))
 exact cG t17 (fn:=f161) (lc:=[(0,⟨a8 f161 0,K8 n xs,.normal,KQ (cH xs n).2.length (cH xs n).2.length (cH xs n).1 (cH xs n).2⟩)]) (fuel:=100) (p:=[])
  (o:=⟨_,_,true,[K8 n xs=K8 n xs]⟩)
  (by kernel_rfl) (by kernel_rfl) (by kernel_rfl) rfl (by simp) (fun cc hc=>aI.cons (c:=cc) (by cases hc;kernel_rfl) (by cases hc;exact g) aI.nil)
end
section
def T18:List bD:=[⟨184,[],nm BJ⟩]++T17
theorem e18:a6 Tryz.prog T18:=by
 refine a6.append ?_ e17
 intro e he
 simp only[List.mem_cons,List.not_mem_nil,or_false]at he
 subst he;exact a6E.ok
theorem t18:bJ Tryz.prog (a9 T18):=aM e18
theorem UG (xs:List Int) (n:Nat):aD tt (a9 T18) [] 100 Tryz.f182 [.c (.view none (.ints .i64 xs) n 4 none)] [] []=
  some ⟨.c (.int .i64 (↑(cH xs n).snd.length:Int)),[],(decide (n≤8)&&((a7 xs)&&true)),[]⟩:=by kernel_rfl
def vR (xs:List Int) (n:Nat):Nat:=(cH xs n).2.length
def B9:aN:=fun args h=>
 match args,h with
 |[.c (.view _ (.ints .i64 xs) n 4 _)],[]=>
  some (.c (.int .i64 (vR xs n)),[],[decide (n≤8),a7 xs])
 |_,_=>none
theorem a6C:aT Tryz.prog 182 B9:=by
 intro args h res h' o hnorm he ho
 unfold B9 at he
 split at he
 case h_2=>cases he
 rename_i nl xs n cap
 simp only[Option.some.injEq,Prod.mk.injEq]at he
 obtain⟨rfl,rfl,rfl⟩:=he
 simp only[List.mem_cons,List.not_mem_nil,or_false,forall_eq_or_imp,forall_eq,decide_eq_true_eq]at ho
 obtain⟨o1,o2⟩:=ho
 simp only[bE,AV.norm,bF,aF.norm,Con.size,List.cons.injEq,AV.c.injEq,AV.agg.injEq,aF.view.injEq,aL,true_and,and_true]at hnorm
 obtain⟨hn1,hn2,hn3⟩:=hnorm
 subst hn1 hn3
 exact mo t18 (UG xs n) (by simp[o1,o2])
def T19:List bD:=[⟨182,[],nm B9⟩]++T18
theorem e19:a6 Tryz.prog T19:=by
 refine a6.append ?_ e18
 intro e he
 simp only[List.mem_cons,List.not_mem_nil,or_false]at he
 subst he;exact a6C.ok
theorem t19:bJ Tryz.prog (a9 T19):=aM e19
theorem U7 (k:Int) (v:List Int):aD tt (a9 T19) [] 100 Tryz.f151 [.c (.int .i64 k),.c (.view none (.ints .i64 v) v.length 1 none)] [] []=
  some ⟨.c (.bool ((↑(vR (cC k v) v.length):Int)==4)),[],(decide (v.length≤274877906944)&&(bet k 1 2&&(aK v&&(decide (v.length*4=(cC k v).length)&&(decide (v.length≤8)&&((a7 (cC k v))&&true)))))),[]⟩:=by kernel_rfl
def bO (k:Int) (v:List Int):Bool:=(vR (cC k v) v.length:Int)==4
def w8:aN:=fun args h=>
 match args,h with
 |[.c (.int .i64 k),.c (.view _ (.ints .i64 v) n 1 _)],[]=>
  some (.c (.bool (bO k v)),[],[decide (v.length≤8),bet k 1 2,aK v])
 |_,_=>none
theorem JO {k a:Int} (hk:bet k 1 2=true) (ha:bet a 0 7=true):a7 (zY k a)=true:=by
 refine J3 (q:=fun k a=>a7 (zY k a)=true) (fun i hi=> ?_) hk ha
 have all:c7 (fun k=>a7 (zY ((k/8:Nat)+1:Int) (k%8:Nat))) 16=true:=by kernel_rfl
 exact aV all i hi
theorem tG {k:Int} (hk:bet k 1 2=true) {v:List Int} (hv:aK v=true): ∀m i,i+m≤v.length→a7 (jD k v m i)=true
 |0,_,_=>rfl
 |m+1,i,h=>eE (JO hk (cA hv (by omega))) (tG hk hv m (i+1) (by omega))
theorem gR {k:Int} (hk:bet k 1 2=true) {v:List Int} (hv:aK v=true):a7 (cC k v)=true:=tG hk hv _ _ (by omega)
theorem tH (k:Int) (v:List Int): ∀m i,(jD k v m i).length=m*4
 |0,_=>by simp[jD]
 |m+1,i=>by simp[jD,zY,tH k v m (i+1)];omega
theorem l7 (k:Int) (v:List Int):(cC k v).length=v.length*4:=tH k v _ _
theorem a5V:aT Tryz.prog 151 w8:=by
 intro args h res h' o hnorm he ho
 unfold w8 at he
 split at he
 case h_2=>cases he
 rename_i k nl v n cap
 simp only[Option.some.injEq,Prod.mk.injEq]at he
 obtain⟨rfl,rfl,rfl⟩:=he
 simp only[List.mem_cons,List.not_mem_nil,or_false,forall_eq_or_imp,forall_eq,decide_eq_true_eq]at ho
 obtain⟨o1,o2,o3⟩:=ho
 simp only[bE,AV.norm,bF,aF.norm,Con.size,List.cons.injEq,AV.c.injEq,AV.agg.injEq,aF.view.injEq,aL,true_and,and_true]at hnorm
 obtain⟨rfl,rfl,rfl⟩:=hnorm
 exact mo t19 (U7 k v) (by simp[o1,o2,o3,gR,l7];omega)
end
section
def bL {β:Type} (step:Nat→β→β):Nat→Nat→β→β
 |0,_,b=>b
 |f+1,i,b=>bL step f (i+1) (step i b)
def dK {β γ:Type} (step:Nat→β→β⊕γ):Nat→Nat→β→β⊕γ
 |0,_,b=> .inl b
 |f+1,i,b=>match step i b with
  |.inl b'=>dK step f (i+1) b'
  |.inr c=> .inr c
theorem tK {β:Type} {step:Nat→β→β} (Inv:Nat→β→Prop): ∀(f i:Nat) (b:β),Inv i b→(∀k b,i≤k→k<i+f→Inv k b→Inv (k+1) (step k b))→Inv (i+f) (bL step f i b)
 |0,i,b,h,_=>h
 |f+1,i,b,h,hs=>by
  have:=tK (step:=step) Inv f (i+1) (step i b) (hs i b (Nat.le_refl _) (by omega) h) (fun k b h1 h2=>hs k b (by omega) (by omega))
  rw[show i+(f+1)=i+1+f from by omega]
  exact this
theorem bB {β:Type} {step:Nat→β→β} (Inv:Nat→β→Prop) (n:Nat) (b:β) (h:Inv 0 b) (hs: ∀k b,k<n→Inv k b→Inv (k+1) (step k b)):Inv n (bL step n 0 b):=by
 have:=tK Inv n 0 b h (fun k b _ h2=>hs k b (by omega))
 rwa[Nat.zero_add]at this
theorem tJ {β:Type} {s s':Nat→β→β}: ∀(f i:Nat) (b:β),(∀k b,i≤k→k<i+f→s k b=s' k b)→bL s f i b=bL s' f i b
 |0,_,_,_=>rfl
 |f+1,i,b,h=>by
  simp only[bL]
  rw[h i b (Nat.le_refl _) (by omega)]
  exact tJ f (i+1) _ fun k b h1 h2=>h k b (by omega) (by omega)
def c9 (f:Nat→Bool):Nat→Nat→Bool
 |0,_=>true
 |n+1,i=>f i&&c9 f n (i+1)
theorem bX {f:Nat→Bool}: ∀ {n i:Nat},c9 f n i=true↔ ∀k,i≤k→k<i+n→f k=true
 |0,i=>⟨fun _ k h1 h2=>absurd h1 (by omega),fun _=>rfl⟩
 |n+1,i=>by
  simp only[c9,Bool.and_eq_true,rpS,bX (n:=n) (i:=i+1)]
  constructor
  ·rintro⟨h1,h2⟩ k h3 h4
   by_cases e:k=i
   ·subst e;exact h1
   ·exact h2 k (by omega) (by omega)
  ·intro h
   exact⟨h i (Nat.le_refl _) (by omega),fun k h1 h2=>h k (by omega) (by omega)⟩
theorem zZ (f:Nat→Bool): ∀(n i:Nat),dK (β:=Unit) (γ:=Unit) (fun i _=>bif f i then .inl ()else .inr ()) n i ()=bif c9 f n i then .inl ()else .inr ()
 |0,i=>rfl
 |n+1,i=>by
  simp only[dK,c9]
  cases h:f i
  ·rfl
  ·exact zZ f n (i+1)
inductive Rnd (m:Nat) (live liveX:List Nat) (r:Option Out) (ex:Ex) (s:St):Prop
 |mk (b:Bool) (q:List Prop) (h:aC m live liveX r=some (ex,b,q,s)) (hb:b=true) (hq: ∀x∈q,x)
section
variable {P : Program} {tt : Tab} (hT : iV P tt) {ct : CT} (hct : bJ P ct) (bK : P.follows .mixedOrders = true)
include hT hct bK
theorem aS.count {m id:Nat} {body:Code} {β:Type} (n:Nat) (Inv:Nat→β→Prop) (I:Nat→β→St) (X:β→St) (step:Nat→β→β) (live liveX:List Nat) (lc:Nat→β→List (Nat×LC))
  (hlc: ∀i b,i<n→Inv i b→aI P m (lc i b) body)
  (hr: ∀i b,i<n→Inv i b→Inv (i+1) (step i b)∧ ∃f p,Rnd m live liveX (aG tt ct (lc i b) m f body (I i b) p) .normal (I (i+1) (step i b)))
  (hx: ∀b,Inv n b→ ∃f p,Rnd m live liveX (aG tt ct [] m f body (I n b) p) (.exit id) (X b)):
  ∀b,Inv 0 b→aS P m (.block id (.loop body)) (I 0 b) fun e t=>e=.normal∧t=X (bL step n 0 b):=by
 intro b hb
 refine aS.roundsN hT hct bK (m:=m) (id:=id) (body:=body) (α:=Nat×β) (fun x=>x.1≤n∧Inv x.1 x.2) (fun x=>I x.1 x.2) (fun x=>n-x.1) live liveX
  (fun x=>X (bL step (n-x.1) x.1 x.2)) (fun x=>if x.1<n then lc x.1 x.2 else []) (fun x h=>by
   split
   ·rename_i hi;exact hlc _ _ hi h.2
   ·exact aI.nil) (fun x hinv=> ?_) (0,b) ⟨Nat.zero_le _,hb⟩
 obtain⟨i,b⟩:=x
 obtain⟨h1,h2⟩:=hinv
 dsimp only at h1 h2⊢
 by_cases hi:i<n
 ·rw[if_pos hi]
  obtain⟨g1,f,p,⟨o,q,h,ho,hq⟩⟩:=hr i b hi h2
  refine⟨f,p,_,o,q,_,h,ho,hq,.inl ⟨rfl,(i+1,step i b),⟨by omega,g1⟩,by dsimp only;omega,rfl, ?_⟩⟩
  dsimp only
  rw[show n-i=(n-(i+1))+1 from by omega];rfl
 ·have e:i=n:=by omega
  subst e
  rw[if_neg hi]
  obtain⟨f,p,⟨o,q,h,ho,hq⟩⟩:=hx b h2
  exact⟨f,p,_,o,q,_,h,ho,hq,.inr ⟨rfl,by rw[Nat.sub_self];rfl⟩⟩
theorem aS.countE {m id:Nat} {body:Code} {β γ:Type} (n:Nat) (Inv:Nat→β→Prop) (I:Nat→β→St) (X:β→St) (Y:γ→St) (exY:Ex) (hexY:exY=.normal∨exY=.ret) (step:Nat→β→β⊕γ)
  (live liveX:List Nat) (lc:Nat→β→List (Nat×LC))
  (hlc: ∀i b,i<n→Inv i b→aI P m (lc i b) body)
  (hr: ∀i b,i<n→Inv i b→(∃b',step i b=.inl b'∧Inv (i+1) b'∧ ∃f p,Rnd m live liveX (aG tt ct (lc i b) m f body (I i b) p) .normal (I (i+1) b'))∨
   (∃c,step i b=.inr c∧ ∃f p,Rnd m live liveX (aG tt ct (lc i b) m f body (I i b) p) (if exY=.normal then .exit id else exY) (Y c)))
  (hx: ∀b,Inv n b→ ∃f p,Rnd m live liveX (aG tt ct [] m f body (I n b) p) (.exit id) (X b)):
  ∀b,Inv 0 b→aS P m (.block id (.loop body)) (I 0 b) fun e t=>match dK step n 0 b with
   |.inl b'=>e=.normal∧t=X b'
   |.inr c=>e=exY∧t=Y c:=by
 intro b hb
 have key:=aS.roundsR hT hct bK (m:=m) (id:=id) (body:=body) (α:=Nat×β) (fun x=>x.1≤n∧Inv x.1 x.2) (fun x=>I x.1 x.2) (fun x=>n-x.1) live liveX
  (fun x=>match dK step (n-x.1) x.1 x.2 with|.inl _=> .normal|.inr _=>exY) (fun x=>match dK step (n-x.1) x.1 x.2 with|.inl b'=>X b'|.inr c=>Y c)
  (fun x=>if x.1<n then lc x.1 x.2 else []) (fun x h=>by
   split
   ·rename_i hi;exact hlc _ _ hi h.2
   ·exact aI.nil) (fun x hinv=> ?_) (0,b) ⟨Nat.zero_le _,hb⟩
 ·refine aS.mono key fun e t h=> ?_
  dsimp only[Nat.sub_zero]at h
  revert h
  cases dK step n 0 b<;>exact fun h=>h
 ·obtain⟨i,b⟩:=x
  obtain⟨h1,h2⟩:=hinv
  dsimp only at h1 h2⊢
  by_cases hi:i<n
  ·rw[if_pos hi]
   have hk:n-i=(n-(i+1))+1:=by omega
   rcases hr i b hi h2 with⟨b',hs,g1,f,p,⟨o,q,h,ho,hq⟩⟩|⟨c,hs,f,p,⟨o,q,h,ho,hq⟩⟩
   ·refine⟨f,p,_,o,q,_,h,ho,hq,.inl ⟨rfl,(i+1,b'),⟨by omega,g1⟩,by dsimp only;omega,rfl, ?_, ?_⟩⟩
    ·dsimp only;rw[hk];simp only[dK,hs]
    ·dsimp only;rw[hk];simp only[dK,hs]
   ·have e1:dK step (n-i) i b=.inr c:=by rw[hk];simp only[dK,hs]
    rw[e1]
    rcases hexY with e|e
    ·subst e
     rw[if_pos rfl]at h
     exact⟨f,p,_,o,q,_,h,ho,hq,.inr (.inl ⟨rfl,rfl,rfl⟩)⟩
    ·subst e
     rw[if_neg (by intro h;cases h)]at h
     exact⟨f,p,_,o,q,_,h,ho,hq,.inr (.inr ⟨(by intro h;cases h),(by intro h;cases h),rfl,rfl⟩)⟩
  ·have e:i=n:=by omega
   subst e
   rw[if_neg hi]
   obtain⟨f,p,⟨o,q,h,ho,hq⟩⟩:=hx b h2
   have e1:dK step (i-i) i b=.inl b:=by rw[Nat.sub_self];rfl
   rw[e1]
   exact⟨f,p,_,o,q,_,h,ho,hq,.inr (.inl ⟨rfl,rfl,rfl⟩)⟩
theorem aS.all {m id:Nat} {body:Code} (n:Nat) (f:Nat→Bool) (I:Nat→St) (X Y:St) (exY:Ex) (hexY:exY=.normal∨exY=.ret) (live liveX:List Nat) (lc:Nat→List (Nat×LC))
  (hlc: ∀i,i<n→aI P m (lc i) body)
  (ht: ∀i,i<n→f i=true→ ∃g p,Rnd m live liveX (aG tt ct (lc i) m g body (I i) p) .normal (I (i+1)))
  (hf: ∀i,i<n→f i=false→ ∃g p,Rnd m live liveX (aG tt ct (lc i) m g body (I i) p) (if exY=.normal then .exit id else exY) Y)
  (hx: ∃g p,Rnd m live liveX (aG tt ct [] m g body (I n) p) (.exit id) X):
  aS P m (.block id (.loop body)) (I 0) fun e t=>e=(bif c9 f n 0 then .normal else exY)∧t=bif c9 f n 0 then X else Y:=by
 have key:=aS.countE hT hct bK (m:=m) (id:=id) (body:=body) (β:=Unit) (γ:=Unit) n (fun _ _=>True) (fun i _=>I i) (fun _=>X) (fun _=>Y) exY hexY (fun i _=>bif f i then .inl ()else .inr ())
  live liveX (fun i _=>lc i) (fun i _ h _=>hlc i h) (fun i _ hi _=> ?_) (fun _ _=>hx) () trivial
 ·refine aS.mono key fun e t h=> ?_
  rw[zZ]at h
  revert h
  cases c9 f n 0<;>exact fun h=>h
 ·cases h:f i with
  |true=>exact .inl ⟨(),rfl,trivial,ht i hi h⟩
  |false=>exact .inr ⟨(),rfl,hf i hi h⟩
end
end
section
def T20:List bD:=[⟨151,[],nm w8⟩]++T19
theorem e20:a6 Tryz.prog T20:=by
 refine a6.append ?_ e19
 intro e he
 simp only[List.mem_cons,List.not_mem_nil,or_false]at he
 subst he;exact a5V.ok
theorem t20:bJ Tryz.prog (a9 T20):=aM e20
noncomputable abbrev f139:=Tryz.f152
def lG (ys:List Int) (i:Nat):List Int:=[ys.getD (i*12+0) 0,ys.getD (i*12+1) 0,ys.getD (i*12+2) 0,ys.getD (i*12+3) 0,ys.getD (i*12+4) 0,ys.getD (i*12+5) 0,ys.getD (i*12+6) 0,ys.getD (i*12+7) 0,ys.getD (i*12+8) 0,ys.getD (i*12+9) 0,ys.getD (i*12+10) 0,ys.getD (i*12+11) 0]
noncomputable def pR (w v ys:List Int) (r:Nat) (n:Nat) (zs:List Int) (i:Int):St:=
 aY f139.ntmps [(1,.c (.view none (.ints .i64 w) w.length 1 none)),(2,.c (.view none (.ints .i64 v) v.length 1 none)),(6,.c (.ptr 0 0 0 0)),(7,.c (.ptr 1 0 0 0)),(9,.c (.sl 2 0 n 5 none)),
  (29,.c (.sl 3 0 r 12 none)),(30,.c (.int .i64 r)),(31,.c (.int .i64 i))]
  [.live (.ints .i64 [0,0,0,0]),.live (.ints .i64 [0,0,0,0]),.live (.ints .i64 zs),.live (.ints .i64 ys)]
noncomputable def mM (w v ys:List Int) (r n:Nat) (zs kk:List Int) (i val j:Int):St:=
 aY f139.ntmps [(1,.c (.view none (.ints .i64 w) w.length 1 none)),(2,.c (.view none (.ints .i64 v) v.length 1 none)),(6,.c (.ptr 0 0 0 0)),(7,.c (.ptr 1 0 0 0)),(9,.c (.sl 2 0 n 5 none)),
  (11,.c (.ptr 3 0 0 0)),(12,.c (.int .i64 val)),(29,.c (.sl 4 0 r 12 none)),(30,.c (.int .i64 r)),(31,.c (.int .i64 i)),(35,.c (.view none (.ints .i64 v) v.length 1 none)),(36,.c (.int .i64 v.length)),
  (37,.c (.int .i64 j))]
  [.live (.ints .i64 [0,0,0,0]),.live (.ints .i64 [0,0,0,0]),.live (.ints .i64 zs),.live (.ints .i64 kk),.live (.ints .i64 ys)]
noncomputable def yJ (w v ys:List Int) (r n:Nat) (zs kk:List Int) (i val:Int):St:=
 aY f139.ntmps [(1,.c (.view none (.ints .i64 w) w.length 1 none)),(2,.c (.view none (.ints .i64 v) v.length 1 none)),(6,.c (.ptr 0 0 0 0)),(7,.c (.ptr 1 0 0 0)),(9,.c (.sl 2 0 n 5 none)),
  (11,.c (.ptr 3 0 0 0)),(12,.c (.int .i64 val)),(29,.c (.sl 4 0 r 12 none)),(30,.c (.int .i64 r)),(31,.c (.int .i64 i))]
  [.live (.ints .i64 [0,0,0,0]),.live (.ints .i64 [0,0,0,0]),.live (.ints .i64 zs),.live (.ints .i64 kk),.live (.ints .i64 ys)]
noncomputable def D3 (zs:List Int) (n:Nat):St:=
 aY f139.ntmps [(6,.c (.ptr 0 0 0 0)),(7,.c (.ptr 1 0 0 0)),(9,.c (.sl 2 0 n 5 none))]
  [.live (.ints .i64 [0,0,0,0]),.live (.ints .i64 [0,0,0,0]),.live (.ints .i64 zs)]
theorem MA (w v ys:List Int) (r n:Nat) (zs kk:List Int) (i val j:Int):aC 0 (a8 f139 2) (aA f139 2) (aG tt (a9 T20) [] 0 100 (a0 2 (a5 f139)) (mM w v ys r n zs kk i val j) [(0,true)])=
  some (.normal,(decide (j<(↑v.length:Int))&&(decide (0≤j)&&(decide (j<(↑v.length:Int))&&(decide (j.toNat<v.length)&&(decide (0≤j)&&(decide (j<8)&&(decide (j.toNat*1+4<kk.length)&&(decide (0≤v.getD j.toNat 0)&&(decide (v.getD j.toNat 0<(↑w.length:Int))&&(decide ((v.getD j.toNat 0).toNat<w.length)&&(fok (kk.getD (j.toNat*1+4) 0)&&(fok (w.getD (v.getD j.toNat 0).toNat 0)&&(fok val&&((fok (kk.getD (j.toNat*1+4) 0*w.getD (v.getD j.toNat 0).toNat 0%31))&&true)))))))))))))),[],mM w v ys r n zs kk i ((val+kk.getD (j.toNat*1+4) 0*w.getD (v.getD j.toNat 0).toNat 0%31)%31) (IntKind.i64.wrap (j+1))):=by kernel_rfl
theorem MB (w v ys:List Int) (r n:Nat) (zs kk:List Int) (i val j:Int):aC 0 (a8 f139 2) (aA f139 2) (aG tt (a9 T20) [] 0 100 (a0 2 (a5 f139)) (mM w v ys r n zs kk i val j) [(0,false)])=
  some (.exit 2,((!decide (j<(↑v.length:Int)))&&true),[],yJ w v ys r n zs kk i (val)):=by kernel_rfl
theorem M8 (w v ys:List Int) (r n:Nat) (zs:List Int) (i val:Int):aC 0 (a8 f139 0) (aA f139 0) (aG tt (a9 T20) [(2,⟨a8 f139 2,mM w v ys r n zs (lG ys i.toNat) i 0 0,.normal,yJ w v ys r n zs (lG ys i.toNat) i val⟩)] 0 100 (a0 0 (a5 f139)) (pR w v ys r n zs i) [(0,true)])=
  some (.normal,(decide (i<(↑r:Int))&&(decide (0≤i)&&(decide (i<(↑r:Int))&&(decide (i.toNat*12+12≤ys.length)&&(decide (n*5=zs.length)&&((decide (n+1≤274877906944))&&true)))))),[mM w v ys r n zs (lG ys i.toNat) i 0 0=mM w v ys r n zs (lG ys i.toNat) i 0 0],pR w v ys r (n+1) (zs++[ys.getD (i.toNat*12) 0,ys.getD (i.toNat*12+1) 0,ys.getD (i.toNat*12+2) 0,ys.getD (i.toNat*12+3) 0,val]) (IntKind.i64.wrap (i+1))):=by kernel_rfl
theorem M9 (w v ys:List Int) (r n:Nat) (zs:List Int) (i val:Int) (lcv:List (Nat×LC)):aC 0 (a8 f139 0) (aA f139 0) (aG tt (a9 T20) lcv 0 100 (a0 0 (a5 f139)) (pR w v ys r n zs i) [(0,false)])=
  some (.exit 0,((!decide (i<(↑r:Int)))&&true),[],D3 (zs) (n)):=by kernel_rfl
def JS (zs:List Int) (j:Nat) (a b c d:Int):List Int:=(((zs.set (j*5) a).set (j*5+1) b).set (j*5+2) c).set (j*5+3) d
def elC (zs:List Int) (at_:Int) (j:Nat):Int:=zs.getD (j*5+at_.toNat*1) 0
def elE (zs:List Int) (i j:Nat) (at_:Int) (q:Nat):Int:=(zs.getD (j*5+q) 0+zs.getD (i*5+q) 0*elC zs at_ j%31*30%31)%31
def lJ (zs:List Int) (i:Nat) (at_:Int) (j:Nat):List Int:=JS zs j (elE zs i j at_ 0) (elE zs i j at_ 1) (elE zs i j at_ 2) (elE zs i j at_ 3)
def mY (zs:List Int) (i:Nat) (at_:Int) (j:Nat):List Int:=
 (lJ zs i at_ j).set (j*5+4) (((lJ zs i at_ j).getD (j*5+4) 0-(lJ zs i at_ j).getD (i*5+4) 0*elC zs at_ j%31)%31)
def ld5 (zs:List Int) (i:Nat):Int:=cR (fun x=>x !=0) [zs.getD (i*5) 0,zs.getD (i*5+1) 0,zs.getD (i*5+2) 0,zs.getD (i*5+3) 0]
noncomputable def pS (n:Nat) (zs:List Int) (i:Int):St:=
 aY f139.ntmps [(6,.c (.ptr 0 0 0 0)),(7,.c (.ptr 1 0 0 0)),(9,.c (.sl 2 0 n 5 none)),(63,.c (.int .i64 n)),(64,.c (.int .i64 i))]
  [.live (.ints .i64 [0,0,0,0]),.live (.ints .i64 [0,0,0,0]),.live (.ints .i64 zs)]
noncomputable def iD (n:Nat) (zs:List Int) (i at_ j:Int):St:=
 aY f139.ntmps [(6,.c (.ptr 0 0 0 0)),(7,.c (.ptr 1 0 0 0)),(9,.c (.sl 2 0 n 5 none)),(15,.c (.int .i64 i)),(16,.c (.int .i64 at_)),(63,.c (.int .i64 n)),(64,.c (.int .i64 i)),(74,.c (.int .i64 n)),
  (75,.c (.int .i64 j))]
  [.live (.ints .i64 [0,0,0,0]),.live (.ints .i64 [0,0,0,0]),.live (.ints .i64 zs)]
noncomputable def yK (n:Nat) (zs:List Int) (i:Int):St:=
 aY f139.ntmps [(6,.c (.ptr 0 0 0 0)),(7,.c (.ptr 1 0 0 0)),(9,.c (.sl 2 0 n 5 none)),(63,.c (.int .i64 n)),(64,.c (.int .i64 i))]
  [.live (.ints .i64 [0,0,0,0]),.live (.ints .i64 [0,0,0,0]),.live (.ints .i64 zs)]
noncomputable def D4 (n:Nat) (zs:List Int):St:=
 aY f139.ntmps [(6,.c (.ptr 0 0 0 0)),(7,.c (.ptr 1 0 0 0)),(9,.c (.sl 2 0 n 5 none))]
  [.live (.ints .i64 [0,0,0,0]),.live (.ints .i64 [0,0,0,0]),.live (.ints .i64 zs)]
theorem ME (n:Nat) (zs:List Int) (i at_ j:Int):aC 0 (a8 f139 6) (aA f139 6) (aG tt (a9 T20) [] 0 100 (a0 6 (a5 f139)) (iD n zs i at_ j) [(0,true),(0,true),(0,true)])=
  some (.normal,(decide (j<(↑n:Int))&&(decide (0≤j)&&(decide (j<(↑n:Int))&&(decide (0≤at_)&&(decide (at_<4)&&(decide (j.toNat*5+at_.toNat*1<zs.length)&&(rp2 (j !=i) ((bif j !=i then zs.getD (j.toNat*5+at_.toNat*1) 0 !=0 else false)&&(decide (0≤j)&&(decide (j<(↑n:Int))&&(decide (j.toNat*5+4≤zs.length)&&(decide (0≤i)&&(decide (i<(↑n:Int))&&(decide (i.toNat*5+4≤zs.length)&&(fok (zs.getD (i.toNat*5) 0)&&(fok (zs.getD (j.toNat*5+at_.toNat*1) 0)&&(fok (zs.getD (i.toNat*5+1) 0)&&(fok (zs.getD (j.toNat*5+at_.toNat*1) 0)&&(fok (zs.getD (i.toNat*5+2) 0)&&(fok (zs.getD (j.toNat*5+at_.toNat*1) 0)&&(fok (zs.getD (i.toNat*5+3) 0)&&(fok (zs.getD (j.toNat*5+at_.toNat*1) 0)&&(fok (zs.getD (j.toNat*5) 0)&&(fok (zs.getD (i.toNat*5) 0*zs.getD (j.toNat*5+at_.toNat*1) 0%31)&&(fok (zs.getD (j.toNat*5+1) 0)&&(fok (zs.getD (i.toNat*5+1) 0*zs.getD (j.toNat*5+at_.toNat*1) 0%31)&&(fok (zs.getD (j.toNat*5+2) 0)&&(fok (zs.getD (i.toNat*5+2) 0*zs.getD (j.toNat*5+at_.toNat*1) 0%31)&&(fok (zs.getD (j.toNat*5+3) 0)&&(fok (zs.getD (i.toNat*5+3) 0*zs.getD (j.toNat*5+at_.toNat*1) 0%31)&&(decide (0≤j)&&(decide (j<(↑n:Int))&&(decide (j.toNat*5+4≤zs.length)&&(decide (0≤j)&&(decide (j<(↑n:Int))&&(decide (j.toNat*5+4<((((zs.set (j.toNat*5) ((zs.getD (j.toNat*5) 0+zs.getD (i.toNat*5) 0*zs.getD (j.toNat*5+at_.toNat*1) 0%31*30%31)%31)).set (j.toNat*5+1) ((zs.getD (j.toNat*5+1) 0+zs.getD (i.toNat*5+1) 0*zs.getD (j.toNat*5+at_.toNat*1) 0%31*30%31)%31)).set (j.toNat*5+2) ((zs.getD (j.toNat*5+2) 0+zs.getD (i.toNat*5+2) 0*zs.getD (j.toNat*5+at_.toNat*1) 0%31*30%31)%31)).set (j.toNat*5+3) ((zs.getD (j.toNat*5+3) 0+zs.getD (i.toNat*5+3) 0*zs.getD (j.toNat*5+at_.toNat*1) 0%31*30%31)%31)).length)&&(decide (0≤i)&&(decide (i<(↑n:Int))&&(decide (i.toNat*5+4<((((zs.set (j.toNat*5) ((zs.getD (j.toNat*5) 0+zs.getD (i.toNat*5) 0*zs.getD (j.toNat*5+at_.toNat*1) 0%31*30%31)%31)).set (j.toNat*5+1) ((zs.getD (j.toNat*5+1) 0+zs.getD (i.toNat*5+1) 0*zs.getD (j.toNat*5+at_.toNat*1) 0%31*30%31)%31)).set (j.toNat*5+2) ((zs.getD (j.toNat*5+2) 0+zs.getD (i.toNat*5+2) 0*zs.getD (j.toNat*5+at_.toNat*1) 0%31*30%31)%31)).set (j.toNat*5+3) ((zs.getD (j.toNat*5+3) 0+zs.getD (i.toNat*5+3) 0*zs.getD (j.toNat*5+at_.toNat*1) 0%31*30%31)%31)).length)&&(fok (((((zs.set (j.toNat*5) ((zs.getD (j.toNat*5) 0+zs.getD (i.toNat*5) 0*zs.getD (j.toNat*5+at_.toNat*1) 0%31*30%31)%31)).set (j.toNat*5+1) ((zs.getD (j.toNat*5+1) 0+zs.getD (i.toNat*5+1) 0*zs.getD (j.toNat*5+at_.toNat*1) 0%31*30%31)%31)).set (j.toNat*5+2) ((zs.getD (j.toNat*5+2) 0+zs.getD (i.toNat*5+2) 0*zs.getD (j.toNat*5+at_.toNat*1) 0%31*30%31)%31)).set (j.toNat*5+3) ((zs.getD (j.toNat*5+3) 0+zs.getD (i.toNat*5+3) 0*zs.getD (j.toNat*5+at_.toNat*1) 0%31*30%31)%31)).getD (i.toNat*5+4) 0)&&(fok (zs.getD (j.toNat*5+at_.toNat*1) 0)&&(fok (((((zs.set (j.toNat*5) ((zs.getD (j.toNat*5) 0+zs.getD (i.toNat*5) 0*zs.getD (j.toNat*5+at_.toNat*1) 0%31*30%31)%31)).set (j.toNat*5+1) ((zs.getD (j.toNat*5+1) 0+zs.getD (i.toNat*5+1) 0*zs.getD (j.toNat*5+at_.toNat*1) 0%31*30%31)%31)).set (j.toNat*5+2) ((zs.getD (j.toNat*5+2) 0+zs.getD (i.toNat*5+2) 0*zs.getD (j.toNat*5+at_.toNat*1) 0%31*30%31)%31)).set (j.toNat*5+3) ((zs.getD (j.toNat*5+3) 0+zs.getD (i.toNat*5+3) 0*zs.getD (j.toNat*5+at_.toNat*1) 0%31*30%31)%31)).getD (j.toNat*5+4) 0)&&(fok (((((zs.set (j.toNat*5) ((zs.getD (j.toNat*5) 0+zs.getD (i.toNat*5) 0*zs.getD (j.toNat*5+at_.toNat*1) 0%31*30%31)%31)).set (j.toNat*5+1) ((zs.getD (j.toNat*5+1) 0+zs.getD (i.toNat*5+1) 0*zs.getD (j.toNat*5+at_.toNat*1) 0%31*30%31)%31)).set (j.toNat*5+2) ((zs.getD (j.toNat*5+2) 0+zs.getD (i.toNat*5+2) 0*zs.getD (j.toNat*5+at_.toNat*1) 0%31*30%31)%31)).set (j.toNat*5+3) ((zs.getD (j.toNat*5+3) 0+zs.getD (i.toNat*5+3) 0*zs.getD (j.toNat*5+at_.toNat*1) 0%31*30%31)%31)).getD (i.toNat*5+4) 0*zs.getD (j.toNat*5+at_.toNat*1) 0%31)&&(decide (0≤j)&&(decide (j<(↑n:Int))&&((decide (j.toNat*5+4<((((zs.set (j.toNat*5) ((zs.getD (j.toNat*5) 0+zs.getD (i.toNat*5) 0*zs.getD (j.toNat*5+at_.toNat*1) 0%31*30%31)%31)).set (j.toNat*5+1) ((zs.getD (j.toNat*5+1) 0+zs.getD (i.toNat*5+1) 0*zs.getD (j.toNat*5+at_.toNat*1) 0%31*30%31)%31)).set (j.toNat*5+2) ((zs.getD (j.toNat*5+2) 0+zs.getD (i.toNat*5+2) 0*zs.getD (j.toNat*5+at_.toNat*1) 0%31*30%31)%31)).set (j.toNat*5+3) ((zs.getD (j.toNat*5+3) 0+zs.getD (i.toNat*5+3) 0*zs.getD (j.toNat*5+at_.toNat*1) 0%31*30%31)%31)).length))&&true)))))))))))))))))))))))))))))))))))))))))))))),[],iD n (mY zs i.toNat at_ j.toNat) i at_ (IntKind.i64.wrap (j+1))):=by kernel_rfl
theorem MF (n:Nat) (zs:List Int) (i at_ j:Int):aC 0 (a8 f139 6) (aA f139 6) (aG tt (a9 T20) [] 0 100 (a0 6 (a5 f139)) (iD n zs i at_ j) [(0,true),(0,true),(0,false)])=
  some (.normal,(decide (j<(↑n:Int))&&(decide (0≤j)&&(decide (j<(↑n:Int))&&(decide (0≤at_)&&(decide (at_<4)&&(decide (j.toNat*5+at_.toNat*1<zs.length)&&(rp2 (j !=i) ((!bif j !=i then zs.getD (j.toNat*5+at_.toNat*1) 0 !=0 else false)&&true)))))))),[],iD n (zs) i at_ (IntKind.i64.wrap (j+1))):=by kernel_rfl
theorem MG (n:Nat) (zs:List Int) (i at_ j:Int):aC 0 (a8 f139 6) (aA f139 6) (aG tt (a9 T20) [] 0 100 (a0 6 (a5 f139)) (iD n zs i at_ j) [(0,true),(0,false)])=
  some (.normal,(decide (j<(↑n:Int))&&(decide (0≤j)&&(decide (j<(↑n:Int))&&(decide (0≤at_)&&(decide (at_<4)&&(decide (j.toNat*5+at_.toNat*1<zs.length)&&(rp3 (!j !=i) true))))))),[],iD n (zs) i at_ (IntKind.i64.wrap (j+1))):=by kernel_rfl
theorem MH (n:Nat) (zs:List Int) (i at_ j:Int):aC 0 (a8 f139 6) (aA f139 6) (aG tt (a9 T20) [] 0 100 (a0 6 (a5 f139)) (iD n zs i at_ j) [(0,false)])=
  some (.exit 6,((!decide (j<(↑n:Int)))&&true),[],yK n (zs) i):=by kernel_rfl
theorem MC (n:Nat) (zs ts:List Int) (i:Int):aC 0 (a8 f139 4) (aA f139 4) (aG tt (a9 T20) [(6,⟨a8 f139 6,iD n zs i (ld5 zs i.toNat) 0,.normal,yK n ts i⟩)] 0 100 (a0 4 (a5 f139)) (pS n zs i) [(0,true)])=
  some (.normal,(decide (i<(↑n:Int))&&(decide (0≤i)&&(decide (i<(↑n:Int))&&((decide (i.toNat*5+4≤zs.length))&&true)))),[iD n zs i (ld5 zs i.toNat) 0=iD n zs i (ld5 zs i.toNat) 0],pS n (ts) (IntKind.i64.wrap (i+1))):=by kernel_rfl
theorem MD (n:Nat) (zs ts:List Int) (i:Int) (lcv:List (Nat×LC)):aC 0 (a8 f139 4) (aA f139 4) (aG tt (a9 T20) lcv 0 100 (a0 4 (a5 f139)) (pS n zs i) [(0,false)])=
  some (.exit 4,((!decide (i<(↑n:Int)))&&true),[],D4 n (zs)):=by kernel_rfl
noncomputable def pT (n:Nat) (zs out:List Int) (i:Int):St:=
 aY f139.ntmps [(6,.c (.ptr 0 0 0 0)),(7,.c (.ptr 1 0 0 0)),(128,.c (.sl 2 0 n 5 none)),(129,.c (.int .i64 n)),(130,.c (.int .i64 i))]
  [.live (.ints .i64 [0,0,0,0]),.live (.ints .i64 out),.live (.ints .i64 zs)]
noncomputable def D5 (out:List Int):St:=
 aY f139.ntmps [(6,.c (.ptr 0 0 0 0)),(7,.c (.ptr 1 0 0 0))] [.live (.ints .i64 [0,0,0,0]),.live (.ints .i64 out)]
theorem MI (n:Nat) (zs out:List Int) (i:Int):aC 0 (a8 f139 8) (aA f139 8) (aG tt (a9 T20) [] 0 100 (a0 8 (a5 f139)) (pT n zs out i) [(0,true)])=
  some (.normal,(decide (i<(↑n:Int))&&(decide (0≤i)&&(decide (i<(↑n:Int))&&(decide (i.toNat*5+5≤zs.length)&&(decide (0≤ld5 zs i.toNat)&&(decide (ld5 zs i.toNat<4)&&((decide ((ld5 zs i.toNat).toNat<out.length))&&true))))))),[],pT n zs (out.set (ld5 zs i.toNat).toNat (zs.getD (i.toNat*5+4) 0)) (IntKind.i64.wrap (i+1))):=by kernel_rfl
theorem MJ (n:Nat) (zs out:List Int) (i:Int):aC 0 (a8 f139 8) (aA f139 8) (aG tt (a9 T20) [] 0 100 (a0 8 (a5 f139)) (pT n zs out i) [(0,false)])=
  some (.exit 8,((!decide (i<(↑n:Int)))&&true),[],D5 (out)):=by kernel_rfl
end
section
theorem aX {n lo hi:Int}:bet n lo hi=true↔lo≤n∧n≤hi:=by simp[bet]
def NQ (w v kk:List Int) (j:Nat) (x:Int):Int:=(x+kk.getD (j*1+4) 0*w.getD (v.getD j 0).toNat 0%31)%31
def AG (w v kk:List Int):Int:=bL (NQ w v kk) v.length 0 0
theorem WH (w v ys:List Int) (r n:Nat) (zs kk:List Int) (i:Int) (hv:v.length≤8) (hs:aK v=true) (hw:w.length=8) (hwf:a7 w=true) (hk:kk.length=12) (hkf:a7 kk=true):
  aS Tryz.prog 0 (.block 2 (.loop (a0 2 (a5 f139)))) (mM w v ys r n zs kk i 0 0) fun e t=>e=.normal∧t=yJ w v ys r n zs kk i (AG w v kk):=by
 refine aS.count hT t20 bK v.length (fun _ x=>fok x=true) (fun j x=>mM w v ys r n zs kk i x j) (fun x=>yJ w v ys r n zs kk i x) (NQ w v kk) (a8 f139 2) (aA f139 2)
  (fun _ _=>[]) (fun _ _ _ _=>aI.nil) (fun j x hj hx=>⟨bY _, ?_⟩) (fun x hx=>⟨_,_,⟨_,_,MB w v ys r n zs kk i x v.length,by simp,by simp⟩⟩) 0 rfl
 ·have hb:=aX.1 (cA hs hj)
  have e:=MA w v ys r n zs kk i x j
  rw[aB (by omega) (by omega),Int.toNat_natCast]at e
  refine⟨_,_,⟨_,_,e, ?_,by simp⟩⟩
  simp only[aO hkf,aO hwf,hx,bY,Bool.true_and,rpS,Bool.and_true,Bool.and_eq_true,decide_eq_true_eq]
  omega
def jP (w v ys:List Int) (i:Nat) (zs:List Int):List Int:=zs++[ys.getD (i*12) 0,ys.getD (i*12+1) 0,ys.getD (i*12+2) 0,ys.getD (i*12+3) 0,AG w v (lG ys i)]
def lT (w v ys:List Int) (r:Nat):List Int:=bL (jP w v ys) r 0 []
theorem JP {ys:List Int} (h:a7 ys=true) (i:Nat):a7 (lG ys i)=true:=by
 simp only[a7,lG,List.all_cons,List.all_nil,aO h,Bool.and_self]
theorem JR {step:Nat→Int→Int} (f i:Nat) (b:Int) (hb:fok b=true) (h: ∀k x,fok (step k x)=true):fok (bL step f i b)=true:=
 tK (fun _ x=>fok x=true) f i b hb fun k x _ _ _=>h k x
theorem JZ (w v kk:List Int):fok (AG w v kk)=true:=JR _ _ _ rfl fun _ _=>bY _
theorem AE {w v ys:List Int} (hy:a7 ys=true) {i:Nat} {zs:List Int} (h:zs.length=i*5∧a7 zs=true):(jP w v ys i zs).length=(i+1)*5∧a7 (jP w v ys i zs)=true:=by
 refine⟨by simp[jP,h.1];omega,eE h.2 ?_⟩
 simp only[a7,List.all_cons,List.all_nil,aO hy,JZ,Bool.and_self]
theorem AD {w v ys:List Int} (hy:a7 ys=true) (r:Nat):(lT w v ys r).length=r*5∧a7 (lT w v ys r)=true:=
 bB (fun i zs=>zs.length=i*5∧a7 zs=true) r [] ⟨rfl,rfl⟩ fun k b _ h=>AE hy h
theorem L3:a0 2 (a0 0 (a5 f139))=a0 2 (a5 f139):=by kernel_rfl
theorem L4:a0 6 (a0 4 (a5 f139))=a0 6 (a5 f139):=by kernel_rfl
theorem WG (w v ys:List Int) (r:Nat) (hv:v.length≤8) (hs:aK v=true) (hw:w.length=8) (hwf:a7 w=true) (hr:r≤8) (hy:ys.length=r*12) (hyf:a7 ys=true):
  aS Tryz.prog 0 (.block 0 (.loop (a0 0 (a5 f139)))) (pR w v ys r 0 [] 0) fun e t=>e=.normal∧t=D3 (lT w v ys r) r:=by
 refine(aS.count hT t20 bK r (fun i zs=>zs.length=i*5∧a7 zs=true) (fun i zs=>pR w v ys r i zs i) (fun zs=>D3 zs r) (jP w v ys) (a8 f139 0) (aA f139 0)
  (fun i zs=>[(2,⟨a8 f139 2,mM w v ys r i zs (lG ys i) i 0 0,.normal,yJ w v ys r i zs (lG ys i) i (AG w v (lG ys i))⟩)])
  (fun i zs _ h=>aI.cons (by kernel_rfl) (by rw[L3];exact WH w v ys r i zs (lG ys i) i hv hs hw hwf rfl (JP hyf i)) aI.nil)
  (fun i zs hi h=>⟨AE hyf h, ?_⟩)
  (fun zs h=>⟨_,_,⟨_,_,M9 w v ys r r zs r 0 [],by simp,by simp⟩⟩)) [] ⟨rfl,rfl⟩
 ·have e:=M8 w v ys r i zs i (AG w v (lG ys i))
  rw[aB (by omega) (by omega),Int.toNat_natCast]at e
  refine⟨_,_,⟨_,_,e, ?_,by simp⟩⟩
  simp only[Bool.true_and,rpS,Bool.and_true,Bool.and_eq_true,decide_eq_true_eq]
  omega
theorem aU (l:List Int) (a b:Nat) (x d:Int):(l.set a x).getD b d=if a=b∧a<l.length then x else l.getD b d:=by
 rw[List.getD_eq_getElem?_getD,List.getElem?_set]
 by_cases h:a=b
 ·subst h
  by_cases h2:a<l.length
  ·simp[h2]
  ·simp[h2,List.getD_eq_getElem?_getD,List.getElem?_eq_none (Nat.le_of_not_lt h2)]
 ·simp[h,List.getD_eq_getElem?_getD]
theorem fgs {l:List Int} {a b:Nat} {x:Int} (hl: ∀b,fok (l.getD b 0)=true) (hx:fok x=true):fok ((l.set a x).getD b 0)=true:=by
 rw[aU];split
 ·exact hx
 ·exact hl b
theorem cU {l:List Int} {a:Nat} {x:Int} (hl:a7 l=true) (hx:fok x=true):a7 (l.set a x)=true:=by
 simp only[a7,List.all_eq_true]at hl⊢
 intro y hy
 rcases List.mem_or_eq_of_mem_set hy with h|h
 ·exact hl y h
 ·rw[h];exact hx
theorem HG {zs:List Int} (h:a7 zs=true) (i j:Nat) (at_:Int):a7 (lJ zs i at_ j)=true:=
 cU (cU (cU (cU h (bY _)) (bY _)) (bY _)) (bY _)
theorem HH {zs:List Int} (h:a7 zs=true) (i j:Nat) (at_:Int):a7 (mY zs i at_ j)=true:=cU (HG h i j at_) (bY _)
theorem kT (zs:List Int) (i j:Nat) (at_:Int):(mY zs i at_ j).length=zs.length:=by simp[mY,lJ,JS]
def jM (i:Nat) (at_:Int) (j:Nat) (zs:List Int):List Int:=bif ((j:Int)!=(i:Int))&&(elC zs at_ j !=0)then mY zs i at_ j else zs
def v9 (n i:Nat) (at_:Int) (zs:List Int):List Int:=bL (jM i at_) n 0 zs
theorem yY {n:Nat} {i:Nat} {at_:Int} {j:Nat} {zs:List Int} (h:zs.length=n*5∧a7 zs=true):(jM i at_ j zs).length=n*5∧a7 (jM i at_ j zs)=true:=by
 unfold jM
 cases ((j:Int)!=(i:Int))&&(elC zs at_ j !=0)
 ·exact h
 ·exact⟨by rw[cond_true,kT];exact h.1,HH h.2 i j at_⟩
theorem sJ {n:Nat} {i:Nat} {at_:Int} {zs:List Int} (h:zs.length=n*5∧a7 zs=true):(v9 n i at_ zs).length=n*5∧a7 (v9 n i at_ zs)=true:=
 bB (fun _ zs=>zs.length=n*5∧a7 zs=true) n zs h fun k b _ h=>yY h
theorem WJ (n:Nat) (zs:List Int) (i:Nat) (at_:Int) (hn:n≤8) (hi:i<n) (ha:bet at_ 0 3=true) (hz:zs.length=n*5) (hf:a7 zs=true):
  aS Tryz.prog 0 (.block 6 (.loop (a0 6 (a5 f139)))) (iD n zs i at_ 0) fun e t=>e=.normal∧t=yK n (v9 n i at_ zs) i:=by
 have ha':=aX.1 ha
 refine aS.count hT t20 bK n (fun _ zs=>zs.length=n*5∧a7 zs=true) (fun j zs=>iD n zs i at_ j) (fun zs=>yK n zs i) (jM i at_) (a8 f139 6) (aA f139 6)
  (fun _ _=>[]) (fun _ _ _ _=>aI.nil) (fun j zs hj h=>⟨yY h, ?_⟩) (fun zs h=>⟨_,_,⟨_,_,MH n zs i at_ n,by simp,by simp⟩⟩) zs ⟨hz,hf⟩
 obtain⟨h1,h2⟩:=h
 unfold jM
 cases c1:((j:Int)!=(i:Int))with
 |false=>
  have e:=MG n zs i at_ j
  rw[aB (by omega) (by omega),Int.toNat_natCast]at e
  refine⟨_,_,⟨_,_,e, ?_,by simp⟩⟩
  rw[c1]
  simp only[Bool.true_and,rpS,Bool.and_true,Bool.not_false,Bool.and_eq_true,decide_eq_true_eq]
  omega
 |true=>
  cases c2:(elC zs at_ j !=0)with
  |false=>
   have e:=MF n zs i at_ j
   rw[aB (by omega) (by omega),Int.toNat_natCast]at e
   refine⟨_,_,⟨_,_,e, ?_,by simp⟩⟩
   unfold elC at c2
   rw[c1,c2]
   simp only[Bool.true_and,rpS,Bool.and_true,Bool.not_false,Bool.and_eq_true,decide_eq_true_eq,cond_true]
   omega
  |true=>
   have e:=ME n zs i at_ j
   rw[aB (by omega) (by omega),Int.toNat_natCast,Int.toNat_natCast]at e
   refine⟨_,_,⟨_,_,e, ?_,by simp⟩⟩
   unfold elC at c2
   rw[c1,c2]
   simp (maxDischargeDepth:=12) only[rpS,aO h2,fgs,bY,implies_true,List.length_set,Bool.true_and,Bool.and_true,Bool.not_false,Bool.and_eq_true,decide_eq_true_eq,cond_true,true_and,and_true]
   omega
def lF (n i:Nat) (zs:List Int):List Int:=v9 n i (ld5 zs i) zs
def a0B (n:Nat) (zs:List Int):List Int:=bL (lF n) n 0 zs
def hR (n:Nat):Nat→Nat→List Int→Bool
 |0,_,_=>true
 |f+1,i,zs=>bet (ld5 zs i) 0 3&&hR n f (i+1) (lF n i zs)
def JH (n:Nat) (zs:List Int):Bool:=hR n n 0 zs
theorem WI (n:Nat) (zs:List Int) (hn:n≤8) (hz:zs.length=n*5) (hf:a7 zs=true) (hr:JH n zs=true):
  aS Tryz.prog 0 (.block 4 (.loop (a0 4 (a5 f139)))) (pS n zs 0) fun e t=>e=.normal∧t=D4 n (a0B n zs):=by
 refine(aS.count hT t20 bK n (fun i zs=>(zs.length=n*5∧a7 zs=true)∧hR n (n-i) i zs=true) (fun i zs=>pS n zs i) (fun zs=>D4 n zs) (lF n) (a8 f139 4) (aA f139 4)
  (fun i zs=>[(6,⟨a8 f139 6,iD n zs i (ld5 zs i) 0,.normal,yK n (lF n i zs) i⟩)]) (fun i zs hi h=> ?_) (fun i zs hi h=> ?_) (fun zs h=> ?_)) zs ⟨⟨hz,hf⟩,hr⟩
 ·obtain⟨h1,h2⟩:=h
  rw[show n-i=(n-(i+1))+1 from by omega]at h2
  simp only[hR,Bool.and_eq_true,rpS]at h2
  exact aI.cons (by kernel_rfl) (by rw[L4];exact WJ n zs i (ld5 zs i) hn hi h2.1 h1.1 h1.2) aI.nil
 ·obtain⟨h1,h2⟩:=h
  rw[show n-i=(n-(i+1))+1 from by omega]at h2
  simp only[hR,Bool.and_eq_true,rpS]at h2
  refine⟨⟨sJ h1,h2.2⟩, ?_⟩
  have e:=MC n zs (lF n i zs) i
  rw[aB (by omega) (by omega),Int.toNat_natCast]at e
  refine⟨_,_,⟨_,_,e, ?_,by simp⟩⟩
  simp only[Bool.true_and,rpS,Bool.and_true,Bool.and_eq_true,decide_eq_true_eq]
  omega
 ·have e:=MD n zs zs n []
  exact⟨_,_,⟨_,_,e,by simp,by simp⟩⟩
end
section
def uJ (zs:List Int) (i:Nat) (out:List Int):List Int:=out.set (ld5 zs i).toNat (zs.getD (i*5+4) 0)
def uI (zs:List Int) (n:Nat):List Int:=bL (uJ zs) n 0 [0,0,0,0]
def HY (zs:List Int) (n:Nat):Bool:=c7 (fun i=>bet (ld5 zs i) 0 3) n
theorem J9 (zs:List Int) (n:Nat):(uI zs n).length=4:=bB (step:=uJ zs) (fun _ o=>o.length=4) n [0,0,0,0] rfl fun k b _ h=>by simp[uJ,h]
theorem J8 {zs:List Int} (h:a7 zs=true) (n:Nat):a7 (uI zs n)=true:=bB (step:=uJ zs) (fun _ o=>a7 o=true) n [0,0,0,0] rfl fun k b _ hb=>cU hb (aO h _)
theorem WK (n:Nat) (zs:List Int) (hn:n≤8) (hz:zs.length=n*5) (hl:HY zs n=true):
  aS Tryz.prog 0 (.block 8 (.loop (a0 8 (a5 f139)))) (pT n zs [0,0,0,0] 0) fun e t=>e=.normal∧t=D5 (uI zs n):=by
 refine aS.count hT t20 bK n (fun _ o=>o.length=4) (fun i o=>pT n zs o i) (fun o=>D5 o) (uJ zs) (a8 f139 8) (aA f139 8)
  (fun _ _=>[]) (fun _ _ _ _=>aI.nil) (fun i o hi h=>⟨by simp[uJ,h], ?_⟩) (fun o h=>⟨_,_,⟨_,_,MJ n zs o n,by simp,by simp⟩⟩) [0,0,0,0] rfl
 have hb:=aX.1 (aV hl i hi)
 have e:=MI n zs o i
 rw[aB (by omega) (by omega),Int.toNat_natCast]at e
 refine⟨_,_,⟨_,_,e, ?_,by simp⟩⟩
 simp only[Bool.true_and,rpS,Bool.and_true,Bool.and_eq_true,decide_eq_true_eq]
 omega
def spK (k:Int) (v:List Int):List Int×List Int:=cH (cC k v) v.length
def AC (k:Int) (w v:List Int):List Int:=lT w v (spK k v).1 (spK k v).2.length
def eH (k:Int) (w v:List Int):List Int:=a0B (spK k v).2.length (AC k w v)
def dN (k:Int) (w v:List Int):List Int:=uI (eH k w v) (spK k v).2.length
def dP (k:Int) (w v:List Int):Bool:=JH (spK k v).2.length (AC k w v)&&HY (eH k w v) (spK k v).2.length
def PU (l:List Int):List aF:=[.int .i64 (l.getD 0 0),.int .i64 (l.getD 1 0),.int .i64 (l.getD 2 0),.int .i64 (l.getD 3 0)]
noncomputable def a49 (k:Int) (w v:List Int):List (Nat×LC):=
  [(0,⟨a8 f139 0,pR w v (spK k v).1 (spK k v).2.length 0 [] 0,.normal,D3 (AC k w v) (spK k v).2.length⟩),
   (4,⟨a8 f139 4,pS (spK k v).2.length (AC k w v) 0,.normal,D4 (spK k v).2.length (eH k w v)⟩),
   (8,⟨a8 f139 8,pT (spK k v).2.length (eH k w v) [0,0,0,0] 0,.normal,D5 (dN k w v)⟩)]
theorem U8 (k:Int) (w v:List Int):aD tt (a9 T20) (a49 k w v) 100 f139 [.c (.int .i64 k),.c (.view none (.ints .i64 w) w.length 1 none),.c (.view none (.ints .i64 v) v.length 1 none)] [] []=
  some ⟨.agg [.int .i64 ((dN k w v).getD 0 0),.int .i64 ((dN k w v).getD 1 0),.int .i64 ((dN k w v).getD 2 0),.int .i64 ((dN k w v).getD 3 0)],[],(decide (v.length≤274877906944)&&(bet k 1 2&&(aK v&&(decide (v.length*4=(cC k v).length)&&(decide (v.length≤8)&&(a7 (cC k v)&&((decide (4≤(dN k w v).length))&&true))))))),[pR w v (spK k v).1 (spK k v).2.length 0 [] 0=pR w v (spK k v).1 (spK k v).2.length 0 [] 0,pS (spK k v).2.length (AC k w v) 0=pS (spK k v).2.length (AC k w v) 0,pT (spK k v).2.length (eH k w v) [0,0,0,0] 0=pT (spK k v).2.length (eH k w v) [0,0,0,0] 0]⟩:=by kernel_rfl
def wP:aN:=fun args h=>
 match args,h with
 |[.c (.int .i64 k),.c (.view _ (.ints .i64 w) n 1 _),.c (.view _ (.ints .i64 v) n2 1 _)],[]=>
  some (.agg (PU (dN k w v)),[],[decide (v.length≤8),bet k 1 2,aK v,decide (w.length=8),a7 w,dP k w v])
 |_,_=>none
theorem w4 (n:Nat) (xs:List Int): ∀(f i:Nat) (s:List Int×List Int),(s.1.length=s.2.length*12∧s.2.length≤i∧(a7 xs=true→a7 s.1=true))→
  (eX xs f i s).1.length=(eX xs f i s).2.length*12∧(eX xs f i s).2.length≤i+f∧(a7 xs=true→a7 (eX xs f i s).1=true)
 |0,i,s,h=>h
 |f+1,i,s,h=>by
  simp only[eX]
  have:=w4 n xs f (i+1) (bif decide (ld4 (KK xs s.1 s.2.length i)<0)then s else(s.1++oneK (KK xs s.1 s.2.length i),s.2++[(i:Int)])) ?_
  ·rw[show i+(f+1)=i+1+f from by omega];exact this
  ·obtain⟨h1,h2,h3⟩:=h
   cases decide (ld4 (KK xs s.1 s.2.length i)<0)
   ·refine⟨by simp[t0,h1];omega,by simp;omega,fun hx=>eE (h3 hx) (zN _)⟩
   ·exact⟨h1,by rw[cond_true];omega,h3⟩
theorem rJ {k:Int} {v:List Int} (hk:bet k 1 2=true) (hv:aK v=true):(spK k v).1.length=(spK k v).2.length*12∧(spK k v).2.length≤v.length∧a7 (spK k v).1=true:=by
 have:=w4 v.length (cC k v) v.length 0 ([],[]) ⟨rfl,by simp,fun _=>rfl⟩
 exact⟨this.1,by have:=this.2.1;unfold spK cH;omega,this.2.2 (gR hk hv)⟩
theorem a5W:aT Tryz.prog 152 wP:=by
 intro args h res h' o hnorm he ho
 unfold wP at he
 split at he
 case h_2=>cases he
 rename_i k nl w n cap nl2 v n2 cap2
 simp only[Option.some.injEq,Prod.mk.injEq]at he
 obtain⟨rfl,rfl,rfl⟩:=he
 simp only[List.mem_cons,List.not_mem_nil,or_false,forall_eq_or_imp,forall_eq,decide_eq_true_eq]at ho
 obtain⟨o1,o2,o3,o4,o5,o6⟩:=ho
 simp only[bE,AV.norm,bF,aF.norm,Con.size,List.cons.injEq,AV.c.injEq,AV.agg.injEq,aF.view.injEq,aL,true_and,and_true]at hnorm
 obtain⟨⟨rfl,rfl,rfl⟩,rfl,rfl,rfl⟩:=hnorm
 obtain⟨s1,s2,s3⟩:=rJ o2 o3
 simp only[dP,Bool.and_eq_true,rpS]at o6
 have t1:=AD (w:=w) (v:=v) s3 (spK k v).2.length
 have t2:(eH k w v).length=(spK k v).2.length*5∧a7 (eH k w v)=true:=bB (step:=lF (spK k v).2.length) (fun _ zs=>zs.length=(spK k v).2.length*5∧a7 zs=true) _ _ t1 fun i zs _ h=>sJ h
 refine mo (fn:=f139) t20 (U8 k w v) (by simp[o1,o2,o3,gR,l7,dN,J9];omega) (hlc:=(fun cc hc=>aI.cons (c:=cc) (by cases hc;kernel_rfl) (by cases hc;exact WG w v (spK k v).1 (spK k v).2.length o1 o3 o4 o5 (by omega) s1 s3)
   (aI.cons (by cases hc;kernel_rfl) (by cases hc;exact WI _ _ (by omega) t1.1 t1.2 o6.1) (aI.cons (by cases hc;kernel_rfl) (by cases hc;exact WK _ _ (by omega) t2.1 o6.2) aI.nil))))
end
section
def T21:List bD:=[⟨152,[],nm wP⟩]++T20
theorem e21:a6 Tryz.prog T21:=by
 refine a6.append ?_ e20
 intro e he
 simp only[List.mem_cons,List.not_mem_nil,or_false]at he
 subst he;exact a5W.ok
theorem t21:bJ Tryz.prog (a9 T21):=aM e21
noncomputable abbrev f121:=Tryz.f135
noncomputable def jR (k:Int) (w v d:List Int) (i:Int):St:=
 aY f121.ntmps [(0,.c (.int .i64 k)),(1,.c (.view none (.ints .i64 w) w.length 1 none)),(7,.c (.ptr 0 0 0 0)),(14,.c (.view none (.ints .i64 v) v.length 1 none)),(15,.c (.int .i64 v.length)),(16,.c (.int .i64 i))]
  [.live (.ints .i64 [d.getD 0 0,d.getD 1 0,d.getD 2 0,d.getD 3 0])]
noncomputable def GL:St:=aY f121.ntmps [] []
noncomputable def GQ:St:=aY f121.ntmps [(6,.c (.bool false))] []
theorem RI (k:Int) (w v d:List Int) (i:Int):aC 0 (a8 f121 0) (aA f121 0) (aG tt (a9 T21) ([]) 0 100 (a0 0 (a5 f121)) (jR k w v d i) [(0,true),(0,true)])=
  some (.ret,(decide (i<(↑v.length:Int))&&(decide (0≤i)&&(decide (i<(↑v.length:Int))&&(decide (i.toNat<v.length)&&(bet k 1 2&&(bet (v.getD i.toNat 0) 0 7&&(fok ((aH k (v.getD i.toNat 0)).getD 0 0)&&(fok (d.getD 0 0)&&(fok ((aH k (v.getD i.toNat 0)).getD 1 0)&&(fok (d.getD 1 0)&&(fok ((aH k (v.getD i.toNat 0)).getD 2 0)&&(fok (d.getD 2 0)&&(fok ((aH k (v.getD i.toNat 0)).getD 3 0)&&(fok (d.getD 3 0)&&(decide (0≤v.getD i.toNat 0)&&(decide (v.getD i.toNat 0<(↑w.length:Int))&&(decide ((v.getD i.toNat 0).toNat<w.length)&&((C2 ((aH k (v.getD i.toNat 0)).getD 0 0) ((aH k (v.getD i.toNat 0)).getD 1 0) ((aH k (v.getD i.toNat 0)).getD 2 0) ((aH k (v.getD i.toNat 0)).getD 3 0) (d.getD 0 0) (d.getD 1 0) (d.getD 2 0) (d.getD 3 0)!=w.getD (v.getD i.toNat 0).toNat 0)&&true)))))))))))))))))),[],GQ):=by kernel_rfl
theorem RJ (k:Int) (w v d:List Int) (i:Int):aC 0 (a8 f121 0) (aA f121 0) (aG tt (a9 T21) ([]) 0 100 (a0 0 (a5 f121)) (jR k w v d i) [(0,true),(0,false)])=
  some (.normal,(decide (i<(↑v.length:Int))&&(decide (0≤i)&&(decide (i<(↑v.length:Int))&&(decide (i.toNat<v.length)&&(bet k 1 2&&(bet (v.getD i.toNat 0) 0 7&&(fok ((aH k (v.getD i.toNat 0)).getD 0 0)&&(fok (d.getD 0 0)&&(fok ((aH k (v.getD i.toNat 0)).getD 1 0)&&(fok (d.getD 1 0)&&(fok ((aH k (v.getD i.toNat 0)).getD 2 0)&&(fok (d.getD 2 0)&&(fok ((aH k (v.getD i.toNat 0)).getD 3 0)&&(fok (d.getD 3 0)&&(decide (0≤v.getD i.toNat 0)&&(decide (v.getD i.toNat 0<(↑w.length:Int))&&(decide ((v.getD i.toNat 0).toNat<w.length)&&((!C2 ((aH k (v.getD i.toNat 0)).getD 0 0) ((aH k (v.getD i.toNat 0)).getD 1 0) ((aH k (v.getD i.toNat 0)).getD 2 0) ((aH k (v.getD i.toNat 0)).getD 3 0) (d.getD 0 0) (d.getD 1 0) (d.getD 2 0) (d.getD 3 0)!=w.getD (v.getD i.toNat 0).toNat 0)&&true)))))))))))))))))),[],jR k w v d (IntKind.i64.wrap (i+1))):=by kernel_rfl
theorem RK (k:Int) (w v d:List Int) (i:Int):aC 0 (a8 f121 0) (aA f121 0) (aG tt (a9 T21) ([]) 0 100 (a0 0 (a5 f121)) (jR k w v d i) [(0,false)])=
  some (.exit 0,((!decide (i<(↑v.length:Int)))&&true),[],GL):=by kernel_rfl
def xI (k:Int) (w v d:List Int) (i:Nat):Bool:= !(c8 k d (v.getD i 0)!=w.getD (v.getD i 0).toNat 0)
def cE (k:Int) (w v:List Int):Bool:=c9 (xI k w v (dN k w v)) v.length 0
theorem hC {k a:Int} (hk:bet k 1 2=true) (ha:bet a 0 7=true):a7 (aH k a)=true:=by
 refine J3 (q:=fun k a=>a7 (aH k a)=true) (fun i hi=> ?_) hk ha
 have all:c7 (fun k=>a7 (aH ((k/8:Nat)+1:Int) (k%8:Nat))) 16=true:=by kernel_rfl
 exact aV all i hi
theorem DK (k:Int) (d:List Int) (a:Int):C2 ((aH k a).getD 0 0) ((aH k a).getD 1 0) ((aH k a).getD 2 0) ((aH k a).getD 3 0) (d.getD 0 0) (d.getD 1 0) (d.getD 2 0) (d.getD 3 0)=c8 k d a:=rfl
theorem a4K (k:Int) (w v d:List Int) (hk:bet k 1 2=true) (hv:v.length≤8) (hs:aK v=true) (hw:w.length=8) (hd:a7 d=true):
  aS Tryz.prog 0 (.block 0 (.loop (a0 0 (a5 f121)))) (jR k w v d 0) fun e t=>e=(bif c9 (xI k w v d) v.length 0 then .normal else .ret)∧t=bif c9 (xI k w v d) v.length 0 then GL else GQ:=by
 have common: ∀i,i<v.length→bet (v.getD i 0) 0 7=true∧a7 (aH k (v.getD i 0))=true:=fun i hi=>⟨cA hs hi,hC hk (cA hs hi)⟩
 refine aS.all hT t21 bK v.length (xI k w v d) (fun i=>jR k w v d i) GL GQ .ret (.inr rfl) (a8 f121 0) (aA f121 0) (fun _=>[]) (fun _ _=>aI.nil) (fun i hi h=> ?_) (fun i hi h=> ?_)
  ⟨_,_,⟨_,_,RK k w v d v.length,by simp,by simp⟩⟩
 ·obtain⟨h1,h2⟩:=common i hi
  have h3:=aX.1 h1
  have e:=RJ k w v d i
  simp only[DK]at e
  rw[aB (by omega) (by omega),Int.toNat_natCast]at e
  refine⟨_,_,⟨_,_,e, ?_,by simp⟩⟩
  unfold xI at h
  simp only[h,hk,h1,aO h2,aO hd,Bool.true_and,rpS,Bool.and_true,Bool.and_eq_true,decide_eq_true_eq]
  omega
 ·obtain⟨h1,h2⟩:=common i hi
  have h3:=aX.1 h1
  have e:=RI k w v d i
  simp only[DK]at e
  rw[Int.toNat_natCast]at e
  refine⟨_,_,⟨_,_,e, ?_,by simp⟩⟩
  unfold xI at h
  rw[Bool.not_eq_false']at h
  simp only[h,hk,h1,aO h2,aO hd,Bool.true_and,rpS,Bool.and_true,Bool.and_eq_true,decide_eq_true_eq]
  omega
theorem TV (k:Int) (w v:List Int):aD tt (a9 T21) ([(0,⟨a8 f121 0,jR k w v (dN k w v) 0,.normal,GL⟩)]) 100 f121 [.c (.int .i64 k),.c (.view none (.ints .i64 w) w.length 1 none),.c (.view none (.ints .i64 v) v.length 1 none)] [] []=
  some ⟨.c (.bool true),[],(decide (v.length≤8)&&(bet k 1 2&&(aK v&&(decide (w.length=8)&&(a7 w&&((dP k w v)&&true)))))),[jR k w v (dN k w v) 0=jR k w v (dN k w v) 0]⟩:=by kernel_rfl
theorem NW (k:Int) (w v:List Int):aD tt (a9 T21) ([(0,⟨a8 f121 0,jR k w v (dN k w v) 0,.ret,GQ⟩)]) 100 f121 [.c (.int .i64 k),.c (.view none (.ints .i64 w) w.length 1 none),.c (.view none (.ints .i64 v) v.length 1 none)] [] []=
  some ⟨.c (.bool false),[],(decide (v.length≤8)&&(bet k 1 2&&(aK v&&(decide (w.length=8)&&(a7 w&&((dP k w v)&&true)))))),[jR k w v (dN k w v) 0=jR k w v (dN k w v) 0]⟩:=by kernel_rfl
def AS:aN:=fun args h=>
 match args,h with
 |[.c (.int .i64 k),.c (.view _ (.ints .i64 w) n 1 _),.c (.view _ (.ints .i64 v) n2 1 _)],[]=>
  some (.c (.bool (cE k w v)),[],[decide (v.length≤8),bet k 1 2,aK v,decide (w.length=8),a7 w,dP k w v])
 |_,_=>none
theorem tP {k:Int} {w v:List Int} (hk:bet k 1 2=true) (hv:aK v=true):a7 (dN k w v)=true:=by
 obtain⟨s1,s2,s3⟩:=rJ hk hv
 have t1:=AD (w:=w) (v:=v) s3 (spK k v).2.length
 have t2:(eH k w v).length=(spK k v).2.length*5∧a7 (eH k w v)=true:=bB (step:=lF (spK k v).2.length) (fun _ zs=>zs.length=(spK k v).2.length*5∧a7 zs=true) _ _ t1 fun i zs _ h=>sJ h
 exact J8 t2.2 _
theorem a5K:aT Tryz.prog 135 AS:=by
 intro args h res h' o hnorm he ho
 unfold AS at he
 split at he
 case h_2=>cases he
 rename_i k nl w n cap nl2 v n2 cap2
 simp only[Option.some.injEq,Prod.mk.injEq]at he
 obtain⟨rfl,rfl,rfl⟩:=he
 simp only[List.mem_cons,List.not_mem_nil,or_false,forall_eq_or_imp,forall_eq,decide_eq_true_eq]at ho
 obtain⟨o1,o2,o3,o4,o5,o6⟩:=ho
 simp only[bE,AV.norm,bF,aF.norm,Con.size,List.cons.injEq,AV.c.injEq,AV.agg.injEq,aF.view.injEq,aL,true_and,and_true]at hnorm
 obtain⟨⟨rfl,rfl,rfl⟩,rfl,rfl,rfl⟩:=hnorm
 have g:=a4K k w v (dN k w v) o2 o1 o3 o4 (tP o2 o3)
 unfold cE
 cases hx:c9 (xI k w v (dN k w v)) v.length 0 with
 |true=>
  rw[hx]at g
  exact cG t21 (fn:=f121) (lc:=[(0,⟨a8 f121 0,jR k w v (dN k w v) 0,.normal,GL⟩)]) (fuel:=100) (p:=[]) (o:=⟨_,_,_,[jR k w v (dN k w v) 0=jR k w v (dN k w v) 0]⟩)
   (by kernel_rfl) (by kernel_rfl) (TV k w v) (by simp[o1,o2,o3,o4,o5,o6]) (by simp) (fun cc hc=>aI.cons (c:=cc) (by cases hc;kernel_rfl) (by cases hc;exact g) aI.nil)
 |false=>
  rw[hx]at g
  exact cG t21 (fn:=f121) (lc:=[(0,⟨a8 f121 0,jR k w v (dN k w v) 0,.ret,GQ⟩)]) (fuel:=100) (p:=[]) (o:=⟨_,_,_,[jR k w v (dN k w v) 0=jR k w v (dN k w v) 0]⟩)
   (by kernel_rfl) (by kernel_rfl) (NW k w v) (by simp[o1,o2,o3,o4,o5,o6]) (by simp) (fun cc hc=>aI.cons (c:=cc) (by cases hc;kernel_rfl) (by cases hc;exact g) aI.nil)
end
section
theorem CR0.nilCases {w:World} {L:Nat→Prop} {ρ:Rho} {c:Con} {len es:Nat} {cap:Option Nat} {v:Value} (h:CR0 w L ρ (.view none c len es cap) v):
  CR0 w L ρ (.view (some false) c len es cap) v∨(c.size=0∧CR0 w L ρ (.view (some true) c len es cap) v):=by
 cases h with
 |view nl c len es cap b base k u hl hc hu hz hk hcap hnl=>exact .inl (.view _ c len es cap b base k u hl hc hu hz hk hcap fun x h=>by injection h with h;exact h.symm)
 |viewNone nl c es cap a k hz hcap hnl hk=>
  cases a with
  |none=>exact .inr ⟨hz,.viewNone _ c es cap none k hz hcap (fun x h=>by injection h with h;exact h.symm) hk⟩
  |some a=>exact .inl (.viewNone _ c es cap (some a) k hz hcap (fun x h=>by injection h with h;exact h.symm) hk)
theorem bA.nilCases {P:Program} {f:FuncId} {c:Con} {len es:Nat} {cap:Option Nat} {h h':List aW} {res:AV} (h1:bA P f [.c (.view (some false) c len es cap)] h res h')
  (h2:c.size=0→bA P f [.c (.view (some true) c len es cap)] h res h'):bA P f [.c (.view none c len es cap)] h res h':=by
 refine⟨h1.1,fun {X w0 ρ0} m vs hl hv=> ?_⟩
 have h0:=hv 0 (by simp)
 simp only[List.getD_cons_zero]at h0
 cases h0 with
 |c x v hx=>
  rcases CR0.nilCases hx with hx|⟨hz,hx⟩
  ·exact h1.2 m vs hl fun q hq=>by
    match q,hq with
    |0,_=>exact .c _ _ hx
  ·exact(h2 hz).2 m vs hl fun q hq=>by
    match q,hq with
    |0,_=>exact .c _ _ hx
theorem Mem.addNil {X:Nat→Prop} {w0 w:World} {M:Nat→Prop} {h:List aW} {ρ:Rho} (m:Mem X w0 M h ρ w) {c0:Con} (hc:c0.size=0):
  ρ h.length=.unborn∧Mem X w0 M (h++[.live c0]) (upd ρ h.length .nil) w:=by
 have hun:ρ h.length=.unborn:=by
  have hs:=m.slot h.length
  rw[Heap.get_ge (Nat.le_refl _)]at hs
  cases hx:ρ h.length<;>rw[hx]at hs<;>first|rfl|exact hs.elim
 have mo:=fR w hun
 refine⟨hun,⟨fun id=> ?_,fun i j b hi hj=> ?_,fun id b hb=> ?_,m.os,m.tape,m.output,m.size,m.keep,m.foreign⟩⟩
 ·by_cases e:id=h.length
  ·subst e
   have:Heap.get (h++[.live c0]) h.length=.live c0:=by
    unfold Heap.get
    rw[List.getD_eq_getElem?_getD,List.getElem?_append_right (by omega)];simp
   rw[this,b8];exact hc
  ·have hg:Heap.get (h++[.live c0]) id=Heap.get h id:=by
    unfold Heap.get
    rw[List.getD_eq_getElem?_getD,List.getD_eq_getElem?_getD,List.getElem?_append]
    split
    ·rfl
    ·rw[List.getElem?_eq_none (l:=h) (by omega),List.getElem?_eq_none (by simp;omega)]
   rw[hg,bG _ _ e]
   exact(m.slot id).mono mo fun _ _=>rfl
 ·by_cases e:i=h.length
  ·subst e;rw[b8]at hi;cases hi
  ·by_cases e':j=h.length
   ·subst e';rw[b8]at hj;cases hj
   ·rw[bG _ _ e]at hi;rw[bG _ _ e']at hj
    exact m.inj i j b hi hj
 ·by_cases e:id=h.length
  ·subst e;rw[b8]at hb;cases hb
  ·rw[bG _ _ e]at hb;exact m.own id b hb
theorem bA.nils {P:Program} {f:FuncId} {args:List AV} {h h':List aW} {es:Nat} {c0:Con} (hm:bA P f args h (.c .nils) h') (hc:c0.size=0):
  bA P f args h (.c (.sl h'.length 0 0 es none)) (h'++[.live c0]):=by
 refine⟨hm.1,fun {X w0 ρ0} m vs hl hv=> ?_⟩
 refine Calls.mono (hm.2 m vs hl hv) ?_
 rintro e w' ⟨v,ρ',rfl,mb,im,m',hr⟩
 obtain⟨hun,m2⟩:=m'.addNil hc
 have mo:=fR w' hun
 refine⟨v,_,rfl,mb.trans mo.toB,im.trans mo.ids,m2, ?_⟩
 cases hr with
 |c x v hx=>exact .c _ _ (iO hx)
end
section
noncomputable def T22:List bD:=[⟨135,[],nm AS⟩]++T21
theorem e22:a6 Tryz.prog T22:=by
 refine a6.append ?_ e21
 intro e he
 simp only[List.mem_cons,List.not_mem_nil,or_false]at he
 subst he;exact a5K.ok
theorem t22:bJ Tryz.prog (a9 T22):=aM e22
theorem TP (k:Int) (w v:List Int):aD tt (a9 T22) ([]) 100 Tryz.f111 [.c (.int .i64 k),.c (.view none (.ints .i64 w) w.length 1 none),.c (.view none (.ints .i64 v) v.length 1 none)] [] [(0,true)]=
  some ⟨.tup [.c .nils,.c (.bool false)],[],(decide (v.length≤8)&&(bet k 1 2&&(aK v&&(rp5 (!bO k v) ((!bO k v)&&true))))),[]⟩:=by kernel_rfl
theorem TQ (k:Int) (w v:List Int):aD tt (a9 T22) ([]) 100 Tryz.f111 [.c (.int .i64 k),.c (.view none (.ints .i64 w) w.length 1 none),.c (.view none (.ints .i64 v) v.length 1 none)] [] [(0,false),(0,true)]=
  some ⟨.tup [.c .nils,.c (.bool false)],[],(decide (v.length≤8)&&(bet k 1 2&&(aK v&&(rp4 (!!bO k v) (decide (v.length≤8)&&(bet k 1 2&&(aK v&&(decide (w.length=8)&&(a7 w&&(dP k w v&&(!!bO k v&&((bif !bO k v then true else !cE k w v)&&true)))))))))))),[]⟩:=by kernel_rfl
theorem TR (k:Int) (w v:List Int):aD tt (a9 T22) ([]) 100 Tryz.f111 [.c (.int .i64 k),.c (.view none (.ints .i64 w) w.length 1 none),.c (.view none (.ints .i64 v) v.length 1 none)] [] [(0,false),(0,false)]=
  some ⟨.tup [.c (.sl 0 0 4 1 none),.c (.bool true)],[.live (.ints .i64 [(dN k w v).getD 0 0,(dN k w v).getD 1 0,(dN k w v).getD 2 0,(dN k w v).getD 3 0])],(decide (v.length≤8)&&(bet k 1 2&&(aK v&&(rp4 (!!bO k v) (decide (v.length≤8)&&(bet k 1 2&&(aK v&&(decide (w.length=8)&&(a7 w&&(dP k w v&&(!!bO k v&&((!bif !bO k v then true else !cE k w v)&&(decide (v.length≤8)&&(bet k 1 2&&(aK v&&(decide (w.length=8)&&(a7 w&&((dP k w v)&&true)))))))))))))))))),[]⟩:=by kernel_rfl
def D1:aN:=fun args h=>
 match args,h with
 |[.c (.int .i64 k),.c (.view _ (.ints .i64 w) n 1 _),.c (.view _ (.ints .i64 v) n2 1 _)],[]=>
  some (.tup [.c (.sl 0 0 4 1 none),.c (.bool true)],[.live (.ints .i64 [(dN k w v).getD 0 0,(dN k w v).getD 1 0,(dN k w v).getD 2 0,(dN k w v).getD 3 0])],[decide (v.length≤8),bet k 1 2,aK v,decide (w.length=8),a7 w,dP k w v,bO k v,cE k w v])
 |_,_=>none
theorem a5B:aT Tryz.prog 111 D1:=by
 intro args h res h' o hnorm he ho
 unfold D1 at he
 split at he
 case h_2=>cases he
 rename_i k nl w n cap nl2 v n2 cap2
 simp only[Option.some.injEq,Prod.mk.injEq]at he
 obtain⟨rfl,rfl,rfl⟩:=he
 simp only[List.mem_cons,List.not_mem_nil,or_false,forall_eq_or_imp,forall_eq,decide_eq_true_eq]at ho
 obtain⟨o1,o2,o3,o4,o5,o6,o7,o8⟩:=ho
 simp only[bE,AV.norm,bF,aF.norm,Con.size,List.cons.injEq,AV.c.injEq,AV.agg.injEq,aF.view.injEq,aL,true_and,and_true]at hnorm
 obtain⟨⟨rfl,rfl,rfl⟩,rfl,rfl,rfl⟩:=hnorm
 exact mo t22 (TR k w v) (by simp[o1,o2,o3,o4,o5,o6,o7,o8])
def D0:aN:=fun args h=>
 match args,h with
 |[.c (.int .i64 k),.c (.view _ (.ints .i64 w) n 1 _),.c (.view _ (.ints .i64 v) n2 1 _)],[]=>
  some (.tup [.c .nils,.c (.bool false)],[],[decide (v.length≤8),bet k 1 2,aK v,decide (w.length=8),a7 w,dP k w v, !(bO k v&&cE k w v)])
 |_,_=>none
theorem X3:aT Tryz.prog 111 D0:=by
 intro args h res h' o hnorm he ho
 unfold D0 at he
 split at he
 case h_2=>cases he
 rename_i k nl w n cap nl2 v n2 cap2
 simp only[Option.some.injEq,Prod.mk.injEq]at he
 obtain⟨rfl,rfl,rfl⟩:=he
 simp only[List.mem_cons,List.not_mem_nil,or_false,forall_eq_or_imp,forall_eq,decide_eq_true_eq]at ho
 obtain⟨o1,o2,o3,o4,o5,o6,o7⟩:=ho
 simp only[bE,AV.norm,bF,aF.norm,Con.size,List.cons.injEq,AV.c.injEq,AV.agg.injEq,aF.view.injEq,aL,true_and,and_true]at hnorm
 obtain⟨⟨rfl,rfl,rfl⟩,rfl,rfl,rfl⟩:=hnorm
 cases hb:bO k v with
 |false=>exact mo t22 (TP k w v) (by simp[o1,o2,o3,hb])
 |true=>
  have hf:cE k w v=false:=by rw[hb]at o7;simpa using o7
  exact mo t22 (TQ k w v) (by simp[o1,o2,o3,o4,o5,o6,hb,hf])
theorem VA (v:List Int):aD tt (a9 T22) ([]) 100 Tryz.f71 [.c (.view (some false) (.ints .i64 v) v.length 1 none)] [] []=
  some ⟨.c (.sl 0 0 (0+v.length) 1 none),[.live (.ints .i64 ([]++v))],((decide (0+v.length≤274877906944))&&true),[]⟩:=by kernel_rfl
theorem VB (v:List Int):aD tt (a9 T22) ([]) 100 Tryz.f71 [.c (.view (some true) (.ints .i64 v) v.length 1 none)] [] []=
  some ⟨.c .nils,[],true,[]⟩:=by kernel_rfl
def oI:aN:=fun args h=>
 match args,h with
 |[.c (.view _ (.ints .i64 v) n 1 _)],[]=>
  some (.c (.sl 0 0 v.length 1 none),[.live (.ints .i64 v)],[decide (v.length≤274877906944)])
 |_,_=>none
theorem m64:aT Tryz.prog 71 oI:=by
 intro args h res h' o hnorm he ho
 unfold oI at he
 split at he
 case h_2=>cases he
 rename_i nl v n cap
 simp only[Option.some.injEq,Prod.mk.injEq]at he
 obtain⟨rfl,rfl,rfl⟩:=he
 simp only[List.mem_cons,List.not_mem_nil,or_false,forall_eq_or_imp,forall_eq,decide_eq_true_eq]at ho
 have o1:=ho
 simp only[bE,AV.norm,bF,aF.norm,Con.size,List.cons.injEq,AV.c.injEq,AV.agg.injEq,aF.view.injEq,aL,true_and,and_true]at hnorm
 obtain⟨rfl,rfl,rfl⟩:=hnorm
 refine bA.nilCases ?_ fun hz=> ?_
 ·have e:=VA v
  simp only[Nat.zero_add]at e
  exact mo t22 e (by simp[o1])
 ·have hv:v=[]:=List.eq_nil_of_length_eq_zero hz
  subst hv
  exact bA.nils (c0:=.ints .i64 []) (mo t22 (VB []) (by simp)) rfl
theorem NX (v:List Bool):aD tt (a9 T22) ([]) 100 Tryz.f150 [.c (.view (some false) (.bools v) v.length 1 none)] [] []=
  some ⟨.c (.sl 0 0 (0+v.length) 1 none),[.live (.bools ([]++v))],((decide (0+v.length≤274877906944))&&true),[]⟩:=by kernel_rfl
theorem NY (v:List Bool):aD tt (a9 T22) ([]) 100 Tryz.f150 [.c (.view (some true) (.bools v) v.length 1 none)] [] []=
  some ⟨.c .nils,[],true,[]⟩:=by kernel_rfl
def lV:aN:=fun args h=>
 match args,h with
 |[.c (.view _ (.bools v) n 1 _)],[]=>
  some (.c (.sl 0 0 v.length 1 none),[.live (.bools v)],[decide (v.length≤274877906944)])
 |_,_=>none
theorem a5O:aT Tryz.prog 150 lV:=by
 intro args h res h' o hnorm he ho
 unfold lV at he
 split at he
 case h_2=>cases he
 rename_i nl v n cap
 simp only[Option.some.injEq,Prod.mk.injEq]at he
 obtain⟨rfl,rfl,rfl⟩:=he
 simp only[List.mem_cons,List.not_mem_nil,or_false,forall_eq_or_imp,forall_eq,decide_eq_true_eq]at ho
 have o1:=ho
 simp only[bE,AV.norm,bF,aF.norm,Con.size,List.cons.injEq,AV.c.injEq,AV.agg.injEq,aF.view.injEq,aL,true_and,and_true]at hnorm
 obtain⟨rfl,rfl,rfl⟩:=hnorm
 refine bA.nilCases ?_ fun hz=> ?_
 ·have e:=NX v
  simp only[Nat.zero_add]at e
  exact mo t22 e (by simp[o1])
 ·have hv:v=[]:=List.eq_nil_of_length_eq_zero hz
  subst hv
  exact bA.nils (c0:=.bools []) (mo t22 (NY []) (by simp)) rfl
theorem W1:aP Tryz.prog 70 (fJ tt (a9 T22) Tryz.f70 []):=dZ hT t22 bK [] (by kernel_rfl) (by kernel_rfl)
theorem W0:aP Tryz.prog 149 (fJ tt (a9 T22) Tryz.f149 []):=dZ hT t22 bK [] (by kernel_rfl) (by kernel_rfl)
noncomputable def T23:List bD:=[⟨71,[],nm oI⟩,⟨150,[],nm lV⟩,⟨70,[0],fJ tt (a9 T22) Tryz.f70 []⟩,⟨149,[0],fJ tt (a9 T22) Tryz.f149 []⟩]++T22
theorem e23:a6 Tryz.prog T23:=by
 refine a6.append ?_ e22
 intro e he
 simp only[List.mem_cons,List.not_mem_nil,or_false]at he
 rcases he with rfl|rfl|rfl|rfl
 ·exact m64.ok
 ·exact a5O.ok
 ·exact W1
 ·exact W0
theorem t23:bJ Tryz.prog (a9 T23):=aM e23
theorem a2D (k:Int) (a b:List Int) (c:List Bool):aD tt (a9 T22) ([]) 100 Tryz.f81 [.agg [.int .i64 k,.view none (.ints .i64 a) a.length 1 none,.view none (.ints .i64 b) b.length 1 none,.view none (.bools c) c.length 1 none]] [] [(0,true),(0,true)]=
  some ⟨.c (.bool (bif bif (↑a.length:Int)==8 then(↑b.length:Int)==8 else false then(↑c.length:Int)==8 else false)),[],(rp4 ((↑a.length:Int)==8) (rp4 (bif (↑a.length:Int)==8 then(↑b.length:Int)==8 else false) true)),[]⟩:=by kernel_rfl
theorem a2E (k:Int) (a b:List Int) (c:List Bool):aD tt (a9 T22) ([]) 100 Tryz.f81 [.agg [.int .i64 k,.view none (.ints .i64 a) a.length 1 none,.view none (.ints .i64 b) b.length 1 none,.view none (.bools c) c.length 1 none]] [] [(0,true),(0,false)]=
  some ⟨.c (.bool false),[],(rp4 ((↑a.length:Int)==8) (rp5 (!bif (↑a.length:Int)==8 then(↑b.length:Int)==8 else false) true)),[]⟩:=by kernel_rfl
theorem a2F (k:Int) (a b:List Int) (c:List Bool):aD tt (a9 T22) ([]) 100 Tryz.f81 [.agg [.int .i64 k,.view none (.ints .i64 a) a.length 1 none,.view none (.ints .i64 b) b.length 1 none,.view none (.bools c) c.length 1 none]] [] [(0,false)]=
  some ⟨.c (.bool false),[],(rp5 (!(↑a.length:Int)==8) true),[]⟩:=by kernel_rfl
def cX (a b:List Int) (c:List Bool):Bool:=((a.length:Int)==8)&&((b.length:Int)==8)&&((c.length:Int)==8)
def rT:aN:=fun args h=>
 match args,h with
 |[.agg [.int .i64 k,.view _ (.ints .i64 a) n1 1 _,.view _ (.ints .i64 b) n2 1 _,.view _ (.bools c) n3 1 _]],[]=>
  some (.c (.bool (cX a b c)),[],[])
 |_,_=>none
theorem m70:aT Tryz.prog 81 rT:=by
 intro args h res h' o hnorm he ho
 unfold rT at he
 split at he
 case h_2=>cases he
 rename_i k nl1 a n1 cap1 nl2 b n2 cap2 nl3 c n3 cap3
 simp only[Option.some.injEq,Prod.mk.injEq]at he
 obtain⟨rfl,rfl,rfl⟩:=he
 simp only[bE,AV.norm,bF,aF.norm,Con.size,List.cons.injEq,AV.c.injEq,AV.agg.injEq,aF.view.injEq,aL,true_and,and_true]at hnorm
 obtain⟨⟨rfl,rfl,rfl⟩,⟨rfl,rfl,rfl⟩,rfl,rfl,rfl⟩:=hnorm
 unfold cX
 cases ha:(a.length:Int)==8 with
 |false=>exact mo t22 (a2F k a b c) (by simp[ha,-beq_eq_false_iff_ne])
 |true=>
  cases hb:(b.length:Int)==8 with
  |false=>exact mo t22 (a2E k a b c) (by simp only[ha,hb];rfl)
  |true=>
   have e:=mo (f:=81) t22 (a2D k a b c) (by simp only[ha,hb];rfl)
   simp only[ha,hb,cond_true]at e
   exact e
theorem a39 (k:Int) (a b:List Int) (c:List Bool):aD tt (a9 T23) ([]) 100 Tryz.f110 [.agg [.int .i64 k,.view none (.ints .i64 a) a.length 1 none,.view none (.ints .i64 b) b.length 1 none,.view none (.bools c) c.length 1 none]] [] []=
  some ⟨.agg [.int .i64 k,.sl 0 0 (↑a.length:Int).toNat 1 none,.sl 1 0 (↑b.length:Int).toNat 1 none,.sl 2 0 (↑c.length:Int).toNat 1 none],[.live (.ints .i64 a),.live (.ints .i64 b),.live (.bools c)],(decide (a.length≤274877906944)&&((rp2 (decide ((↑a.length:Int)≤(↑a.length:Int))) true)&&(decide (b.length≤274877906944)&&((rp2 (decide ((↑b.length:Int)≤(↑b.length:Int))) true)&&(decide (c.length≤274877906944)&&((rp2 (decide ((↑c.length:Int)≤(↑c.length:Int))) true)&&true)))))),[]⟩:=by kernel_rfl
def rN:aN:=fun args h=>
 match args,h with
 |[.agg [.int .i64 k,.view _ (.ints .i64 a) n1 1 _,.view _ (.ints .i64 b) n2 1 _,.view _ (.bools c) n3 1 _]],[]=>
  some (.agg [.int .i64 k,.sl 0 0 a.length 1 none,.sl 1 0 b.length 1 none,.sl 2 0 c.length 1 none],[.live (.ints .i64 a),.live (.ints .i64 b),.live (.bools c)],[decide (a.length≤274877906944),decide (b.length≤274877906944),decide (c.length≤274877906944)])
 |_,_=>none
theorem m99:aT Tryz.prog 110 rN:=by
 intro args h res h' o hnorm he ho
 unfold rN at he
 split at he
 case h_2=>cases he
 rename_i k nl1 a n1 cap1 nl2 b n2 cap2 nl3 c n3 cap3
 simp only[Option.some.injEq,Prod.mk.injEq]at he
 obtain⟨rfl,rfl,rfl⟩:=he
 simp only[List.mem_cons,List.not_mem_nil,or_false,forall_eq_or_imp,forall_eq,decide_eq_true_eq]at ho
 obtain⟨o1,o2,o3⟩:=ho
 simp only[bE,AV.norm,bF,aF.norm,Con.size,List.cons.injEq,AV.c.injEq,AV.agg.injEq,aF.view.injEq,aL,true_and,and_true]at hnorm
 obtain⟨⟨rfl,rfl,rfl⟩,⟨rfl,rfl,rfl⟩,rfl,rfl,rfl⟩:=hnorm
 exact mo t23 (a39 k a b c) (by simp[o1,o2,o3])
end
section
noncomputable def T24:List bD:=[⟨81,[],nm rT⟩,⟨110,[],nm rN⟩]++T23
theorem e24:a6 Tryz.prog T24:=by
 refine a6.append ?_ e23
 intro e he
 simp only[List.mem_cons,List.not_mem_nil,or_false]at he
 rcases he with rfl|rfl
 ·exact m70.ok
 ·exact m99.ok
theorem t24:bJ Tryz.prog (a9 T24):=aM e24
theorem a20 (k:Int) (a b:List Int) (c:List Bool) (on:Bool) (kd:Int) (d:List Int) (vs:Int):aD tt (a9 T24) ([]) 100 Tryz.f49 [.agg [.int .i64 k,.view none (.ints .i64 a) a.length 1 none,.view none (.ints .i64 b) b.length 1 none,.view none (.bools c) c.length 1 none,.bool on,.int .i64 kd,.view none (.ints .i64 d) d.length 1 none,.int .i64 vs]] [] []=
  some ⟨.agg [.int .i64 k,.sl 0 0 a.length 1 none,.sl 1 0 b.length 1 none,.sl 2 0 c.length 1 none,.bool on,.int .i64 kd,.sl 3 0 (↑d.length:Int).toNat 1 none,.int .i64 vs],[.live (.ints .i64 a),.live (.ints .i64 b),.live (.bools c),.live (.ints .i64 d)],(decide (a.length≤274877906944)&&(decide (b.length≤274877906944)&&(decide (c.length≤274877906944)&&(decide (d.length≤274877906944)&&((rp2 (decide ((↑d.length:Int)≤(↑d.length:Int))) true)&&true))))),[]⟩:=by kernel_rfl
theorem a71:aP Tryz.prog 104 (fJ tt (a9 T24) Tryz.f104 []):=dZ hT t24 bK [] (by kernel_rfl) (by kernel_rfl)
theorem W3:aP Tryz.prog 50 (fJ tt (a9 T24) Tryz.f50 []):=dZ hT t24 bK [] (by kernel_rfl) (by kernel_rfl)
noncomputable def T25:List bD:=[⟨104,[0],fJ tt (a9 T24) Tryz.f104 []⟩,⟨50,[0],fJ tt (a9 T24) Tryz.f50 []⟩]++T24
theorem e25:a6 Tryz.prog T25:=by
 refine a6.append ?_ e24
 intro e he
 simp only[List.mem_cons,List.not_mem_nil,or_false]at he
 rcases he with rfl|rfl
 ·exact a71
 ·exact W3
theorem t25:bJ Tryz.prog (a9 T25):=aM e25
def oK:aN:=fun args h=>
 match args,h with
 |[.agg [.int .i64 k,.view _ (.ints .i64 a) n1 1 _,.view _ (.ints .i64 b) n2 1 _,.view _ (.bools c) n3 1 _,.bool on,.int .i64 kd,.view _ (.ints .i64 d) n4 1 _,.int .i64 vs]],[]=>
  some (.agg [.int .i64 k,.sl 0 0 a.length 1 none,.sl 1 0 b.length 1 none,.sl 2 0 c.length 1 none,.bool on,.int .i64 kd,.sl 3 0 d.length 1 none,.int .i64 vs],[.live (.ints .i64 a),.live (.ints .i64 b),.live (.bools c),.live (.ints .i64 d)],[decide (a.length≤274877906944),decide (b.length≤274877906944),decide (c.length≤274877906944),decide (d.length≤274877906944)])
 |_,_=>none
theorem m48:aT Tryz.prog 49 oK:=by
 intro args h res h' o hnorm he ho
 unfold oK at he
 split at he
 case h_2=>cases he
 rename_i k nl1 a n1 cap1 nl2 b n2 cap2 nl3 c n3 cap3 on kd nl4 d n4 cap4 vs
 simp only[Option.some.injEq,Prod.mk.injEq]at he
 obtain⟨rfl,rfl,rfl⟩:=he
 simp only[List.mem_cons,List.not_mem_nil,or_false,forall_eq_or_imp,forall_eq,decide_eq_true_eq]at ho
 obtain⟨o1,o2,o3,o4⟩:=ho
 simp only[bE,AV.norm,bF,aF.norm,Con.size,List.cons.injEq,AV.c.injEq,AV.agg.injEq,aF.view.injEq,aL,true_and,and_true]at hnorm
 obtain⟨⟨rfl,rfl,rfl⟩,⟨rfl,rfl,rfl⟩,⟨rfl,rfl,rfl⟩,rfl,rfl,rfl⟩:=hnorm
 exact mo t24 (a20 k a b c on kd d vs) (by simp[o1,o2,o3,o4])
theorem TE:aP Tryz.prog 72 (fJ tt (a9 T25) Tryz.f72 []):=dZ hT t25 bK [] (by kernel_rfl) (by kernel_rfl)
theorem QB:aP Tryz.prog 73 (fJ tt (a9 T25) Tryz.f73 []):=dZ hT t25 bK [] (by kernel_rfl) (by kernel_rfl)
def qI (vs:Int) (i:Nat) (s:List Int×List Int×List Bool):List Int×List Int×List Bool:=
 bif s.2.1.getD i 0==vs then(s.1.set i 0,s.2.1.set i 0,s.2.2.set i false)else s
def aJ (a b:List Int) (c:List Bool) (vs:Int):List Int×List Int×List Bool:=bL (qI vs) b.length 0 (a,b,c)
noncomputable abbrev f71:=Tryz.f82
noncomputable def I71 (k:Int) (a b a' b':List Int) (c c':List Bool) (on:Bool) (kd:Int) (d:List Int) (vs:Int) (i:Int):St:=
 aY f71.ntmps [(1,.c (.ptr 0 0 0 0)),(2,.c (.ptr 1 0 0 0)),(3,.c (.ptr 2 0 0 0)),(10,.c (.sl 3 0 b.length 1 none)),(11,.c (.int .i64 b.length)),(12,.c (.int .i64 i))]
  [.live (.cells [.int .i64 k,.view none (.ints .i64 a) a.length 1 none,.view none (.ints .i64 b) b.length 1 none,.view none (.bools c) c.length 1 none,.bool on,.int .i64 kd,.view none (.ints .i64 d) d.length 1 none,.int .i64 vs]),.live (.cells [.int .i64 0,.nils,.nils,.nils]),.live (.cells [.int .i64 k,.sl 4 0 a.length 1 none,.sl 3 0 b.length 1 none,.sl 5 0 c.length 1 none]),.live (.ints .i64 b'),.live (.ints .i64 a'),.live (.bools c')]
noncomputable def X71 (k:Int) (na nb nc:Nat) (a' b':List Int) (c':List Bool):St:=
 aY f71.ntmps [(2,.c (.ptr 0 0 0 0)),(3,.c (.ptr 1 0 0 0))]
  [.live (.cells [.int .i64 0,.nils,.nils,.nils]),.live (.cells [.int .i64 k,.sl 2 0 na 1 none,.sl 3 0 nb 1 none,.sl 4 0 nc 1 none]),.live (.ints .i64 a'),.live (.ints .i64 b'),.live (.bools c')]
theorem Z5 (k:Int) (a b a' b':List Int) (c c':List Bool) (on:Bool) (kd:Int) (d:List Int) (vs:Int) (i:Int):aC 0 (a8 f71 0) (aA f71 0) (aG tt (a9 T25) ([]) 0 100 (a0 0 (a5 f71)) (I71 k a b a' b' c c' on kd d vs i) [(0,true),(0,true)])=
  some (.normal,(decide (i<(↑b.length:Int))&&(decide (0≤i)&&(decide (i<(↑b.length:Int))&&(decide (i.toNat<b'.length)&&((b'.getD i.toNat 0==vs)&&((decide (0≤i)&&(decide (i<(↑a.length:Int))&&(decide (i.toNat<a'.length)&&(decide (0≤i)&&(decide (i<(↑b.length:Int))&&(decide (i.toNat<b'.length)&&(decide (0≤i)&&(decide (i<(↑c.length:Int))&&(decide (i.toNat<c'.length)&&true)))))))))&&true)))))),[],I71 k a b (a'.set i.toNat 0) (b'.set i.toNat 0) c (c'.set i.toNat false) on kd d vs (IntKind.i64.wrap (i+1))):=by kernel_rfl
theorem Z6 (k:Int) (a b a' b':List Int) (c c':List Bool) (on:Bool) (kd:Int) (d:List Int) (vs:Int) (i:Int):aC 0 (a8 f71 0) (aA f71 0) (aG tt (a9 T25) ([]) 0 100 (a0 0 (a5 f71)) (I71 k a b a' b' c c' on kd d vs i) [(0,true),(0,false)])=
  some (.normal,(decide (i<(↑b.length:Int))&&(decide (0≤i)&&(decide (i<(↑b.length:Int))&&(decide (i.toNat<b'.length)&&((!b'.getD i.toNat 0==vs)&&true))))),[],I71 k a b (a') (b') c (c') on kd d vs (IntKind.i64.wrap (i+1))):=by kernel_rfl
theorem Z7 (k:Int) (a b a' b':List Int) (c c':List Bool) (on:Bool) (kd:Int) (d:List Int) (vs:Int) (i:Int):aC 0 (a8 f71 0) (aA f71 0) (aG tt (a9 T25) ([]) 0 100 (a0 0 (a5 f71)) (I71 k a b a' b' c c' on kd d vs i) [(0,false)])=
  some (.exit 0,((!decide (i<(↑b.length:Int)))&&true),[],X71 k a.length b.length c.length (a') (b') (c')):=by kernel_rfl
theorem l71 (k:Int) (a b:List Int) (c:List Bool) (on:Bool) (kd:Int) (d:List Int) (vs:Int) (hb:b.length≤274877906944) (ha:a.length=b.length) (hc:c.length=b.length):
  aS Tryz.prog 0 (.block 0 (.loop (a0 0 (a5 f71)))) (I71 k a b a b c c on kd d vs 0) fun e t=>e=.normal∧t=X71 k a.length b.length c.length (aJ a b c vs).1 (aJ a b c vs).2.1 (aJ a b c vs).2.2:=by
 refine aS.count hT t25 bK b.length (fun _ s=>s.1.length=b.length∧s.2.1.length=b.length∧s.2.2.length=b.length) (fun i s=>I71 k a b s.1 s.2.1 c s.2.2 on kd d vs i)
  (fun s=>X71 k a.length b.length c.length s.1 s.2.1 s.2.2) (qI vs) (a8 f71 0) (aA f71 0)
  (fun _ _=>[]) (fun _ _ _ _=>aI.nil) (fun i s hi h=> ?_) (fun s _=>⟨_,_,⟨_,_,Z7 k a b s.1 s.2.1 c s.2.2 on kd d vs b.length,by simp,by simp⟩⟩) (a,b,c) ⟨ha,rfl,hc⟩
 obtain⟨a',b',c'⟩:=s
 obtain⟨h1,h2,h3⟩:=h
 dsimp only at h1 h2 h3
 unfold qI
 cases hz:b'.getD i 0==vs with
 |true=>
  refine⟨by simp[h1,h2,h3], ?_⟩
  have e:=Z5 k a b a' b' c c' on kd d vs i
  rw[aB (i:=(i:Int)+1) (by omega) (by omega),Int.toNat_natCast]at e
  refine⟨_,_,⟨_,_,e, ?_,by simp⟩⟩
  simp only[hz,Bool.true_and,rpS,Bool.and_true,Bool.and_eq_true,decide_eq_true_eq]
  omega
 |false=>
  refine⟨⟨h1,h2,h3⟩, ?_⟩
  have e:=Z6 k a b a' b' c c' on kd d vs i
  rw[aB (by omega) (by omega),Int.toNat_natCast]at e
  refine⟨_,_,⟨_,_,e, ?_,by simp⟩⟩
  simp only[hz,Bool.not_false,Bool.true_and,rpS,Bool.and_true,Bool.and_eq_true,decide_eq_true_eq]
  omega
theorem a2G (k:Int) (a b:List Int) (c:List Bool) (on:Bool) (kd:Int) (d:List Int) (vs:Int):aD tt (a9 T25) ([(0,⟨a8 f71 0,I71 k a b a b c c on kd d vs 0,.normal,X71 k a.length b.length c.length (aJ a b c vs).1 (aJ a b c vs).2.1 (aJ a b c vs).2.2⟩)]) 100 f71 [.agg [.int .i64 k,.view none (.ints .i64 a) a.length 1 none,.view none (.ints .i64 b) b.length 1 none,.view none (.bools c) c.length 1 none,.bool on,.int .i64 kd,.view none (.ints .i64 d) d.length 1 none,.int .i64 vs]] [] []=
  some ⟨.agg [.int .i64 k,.sl 0 0 a.length 1 none,.sl 1 0 b.length 1 none,.sl 2 0 c.length 1 none],[.live (.ints .i64 (aJ a b c vs).fst),.live (.ints .i64 (aJ a b c vs).2.1),.live (.bools (aJ a b c vs).2.2)],(decide (a.length≤274877906944)&&(decide (b.length≤274877906944)&&((decide (c.length≤274877906944))&&true))),[I71 k a b a b c c on kd d vs 0=I71 k a b a b c c on kd d vs 0]⟩:=by kernel_rfl
def BD:aN:=fun args h=>
 match args,h with
 |[.agg [.int .i64 k,.view _ (.ints .i64 a) n1 1 _,.view _ (.ints .i64 b) n2 1 _,.view _ (.bools c) n3 1 _,.bool on,.int .i64 kd,.view _ (.ints .i64 d) n4 1 _,.int .i64 vs]],[]=>
  some (.agg [.int .i64 k,.sl 0 0 a.length 1 none,.sl 1 0 b.length 1 none,.sl 2 0 c.length 1 none],[.live (.ints .i64 (aJ a b c vs).1),.live (.ints .i64 (aJ a b c vs).2.1),.live (.bools (aJ a b c vs).2.2)],[decide (b.length≤274877906944),decide (a.length=b.length),decide (c.length=b.length)])
 |_,_=>none
theorem m71:aT Tryz.prog 82 BD:=by
 intro args h res h' o hnorm he ho
 unfold BD at he
 split at he
 case h_2=>cases he
 rename_i k nl1 a n1 cap1 nl2 b n2 cap2 nl3 c n3 cap3 on kd nl4 d n4 cap4 vs
 simp only[Option.some.injEq,Prod.mk.injEq]at he
 obtain⟨rfl,rfl,rfl⟩:=he
 simp only[List.mem_cons,List.not_mem_nil,or_false,forall_eq_or_imp,forall_eq,decide_eq_true_eq]at ho
 obtain⟨o1,o2,o3⟩:=ho
 simp only[bE,AV.norm,bF,aF.norm,Con.size,List.cons.injEq,AV.c.injEq,AV.agg.injEq,aF.view.injEq,aL,true_and,and_true]at hnorm
 obtain⟨⟨rfl,rfl,rfl⟩,⟨rfl,rfl,rfl⟩,⟨rfl,rfl,rfl⟩,rfl,rfl,rfl⟩:=hnorm
 exact mo t25 (a2G k a b c on kd d vs) (by simp[o1,o2,o3]) (hlc:=(fun cc hc=>aI.cons (c:=cc) (by cases hc;kernel_rfl) (by cases hc;exact l71 k a b c on kd d vs o1 o2 o3) aI.nil))
end
section
noncomputable def T26:List bD:=[⟨49,[],nm oK⟩,⟨72,[0],fJ tt (a9 T25) Tryz.f72 []⟩,⟨73,[0],fJ tt (a9 T25) Tryz.f73 []⟩,⟨82,[],nm BD⟩]++T25
theorem e26:a6 Tryz.prog T26:=by
 refine a6.append ?_ e25
 intro e he
 simp only[List.mem_cons,List.not_mem_nil,or_false]at he
 rcases he with rfl|rfl|rfl|rfl
 ·exact m48.ok
 ·exact TE
 ·exact QB
 ·exact m71.ok
theorem t26:bJ Tryz.prog (a9 T26):=aM e26
theorem a6Y:aP Tryz.prog 155 (fJ tt (a9 T26) Tryz.f155 []):=dZ hT t26 bK [] (by kernel_rfl) (by kernel_rfl)
noncomputable def T27:List bD:=[⟨155,[1,2],fJ tt (a9 T26) Tryz.f155 []⟩]++T26
theorem e27:a6 Tryz.prog T27:=by
 refine a6.append ?_ e26
 intro e he
 simp only[List.mem_cons,List.not_mem_nil,or_false]at he
 subst he;exact a6Y
theorem t27:bJ Tryz.prog (a9 T27):=aM e27
noncomputable abbrev eT:=Tryz.f176
noncomputable def jH (k:Int) (n1 n2 n3:Nat) (nl1 nl2 nl3:Option Bool) (cap1 cap2 cap3:Option Nat) (a b:List Int) (c:List Bool) (vs:Int) (v:List Int) (i:Int):St:=
 aY eT.ntmps [(0,.c (.sl 0 0 v.length 1 none)),(1,.c (.fn 155 [.ptr 1 0 0 0,.ptr 2 0 0 0])),(7,.c (.int .i64 v.length)),(8,.c (.int .i64 i))] [.live (.ints .i64 v),.live (.cells [.int .i64 k,.view nl1 (.ints .i64 a) n1 1 cap1,.view nl2 (.ints .i64 b) n2 1 cap2,.view nl3 (.bools c) n3 1 cap3]),.live (.ints .i64 [vs])]
noncomputable def GM (k:Int) (n1 n2 n3:Nat) (nl1 nl2 nl3:Option Bool) (cap1 cap2 cap3:Option Nat) (a b:List Int) (c:List Bool) (vs:Int) (v:List Int):St:=aY eT.ntmps [] [.live (.ints .i64 v),.live (.cells [.int .i64 k,.view nl1 (.ints .i64 a) n1 1 cap1,.view nl2 (.ints .i64 b) n2 1 cap2,.view nl3 (.bools c) n3 1 cap3]),.live (.ints .i64 [vs])]
noncomputable def GS (k:Int) (n1 n2 n3:Nat) (nl1 nl2 nl3:Option Bool) (cap1 cap2 cap3:Option Nat) (a b:List Int) (c:List Bool) (vs:Int) (v:List Int) (i:Int):St:=aY eT.ntmps [(4,.c (.int .i64 i))] [.live (.ints .i64 v),.live (.cells [.int .i64 k,.view nl1 (.ints .i64 a) n1 1 cap1,.view nl2 (.ints .i64 b) n2 1 cap2,.view nl3 (.bools c) n3 1 cap3]),.live (.ints .i64 [vs])]
theorem MN (k:Int) (n1 n2 n3:Nat) (nl1 nl2 nl3:Option Bool) (cap1 cap2 cap3:Option Nat) (a b:List Int) (c:List Bool) (vs:Int) (v:List Int) (i:Int):aC 3 (a8 eT 0) (aA eT 0) (aG tt (a9 T27) ([]) 3 100 (a0 0 (a5 eT)) (jH k n1 n2 n3 nl1 nl2 nl3 cap1 cap2 cap3 a b c vs v i) [(0,true),(0,true)])=
  some (.ret,(decide (i<(↑v.length:Int))&&(decide (0≤i)&&(decide (i<(↑v.length:Int))&&(decide (i.toNat<v.length)&&((decide (0≤v.getD i.toNat 0)&&(decide (v.getD i.toNat 0<(↑n2:Int))&&(decide ((v.getD i.toNat 0).toNat<b.length)&&true)))&&((b.getD (v.getD i.toNat 0).toNat 0 !=vs)&&true)))))),[],GS k n1 n2 n3 nl1 nl2 nl3 cap1 cap2 cap3 a b c vs v (i)):=by kernel_rfl
theorem MO (k:Int) (n1 n2 n3:Nat) (nl1 nl2 nl3:Option Bool) (cap1 cap2 cap3:Option Nat) (a b:List Int) (c:List Bool) (vs:Int) (v:List Int) (i:Int):aC 3 (a8 eT 0) (aA eT 0) (aG tt (a9 T27) ([]) 3 100 (a0 0 (a5 eT)) (jH k n1 n2 n3 nl1 nl2 nl3 cap1 cap2 cap3 a b c vs v i) [(0,true),(0,false)])=
  some (.normal,(decide (i<(↑v.length:Int))&&(decide (0≤i)&&(decide (i<(↑v.length:Int))&&(decide (i.toNat<v.length)&&((decide (0≤v.getD i.toNat 0)&&(decide (v.getD i.toNat 0<(↑n2:Int))&&(decide ((v.getD i.toNat 0).toNat<b.length)&&true)))&&((!b.getD (v.getD i.toNat 0).toNat 0 !=vs)&&true)))))),[],jH k n1 n2 n3 nl1 nl2 nl3 cap1 cap2 cap3 a b c vs v (IntKind.i64.wrap (i+1))):=by kernel_rfl
theorem MP (k:Int) (n1 n2 n3:Nat) (nl1 nl2 nl3:Option Bool) (cap1 cap2 cap3:Option Nat) (a b:List Int) (c:List Bool) (vs:Int) (v:List Int) (i:Int):aC 3 (a8 eT 0) (aA eT 0) (aG tt (a9 T27) ([]) 3 100 (a0 0 (a5 eT)) (jH k n1 n2 n3 nl1 nl2 nl3 cap1 cap2 cap3 a b c vs v i) [(0,false)])=
  some (.exit 0,((!decide (i<(↑v.length:Int)))&&true),[],GM k n1 n2 n3 nl1 nl2 nl3 cap1 cap2 cap3 a b c vs v):=by kernel_rfl
noncomputable def OP (k:Int) (n1 n2 n3:Nat) (nl1 nl2 nl3:Option Bool) (cap1 cap2 cap3:Option Nat) (a b:List Int) (c:List Bool) (vs:Int) (v:List Int):Option Nat→St
 |some j=>GS k n1 n2 n3 nl1 nl2 nl3 cap1 cap2 cap3 a b c vs v j
 |none=>GM k n1 n2 n3 nl1 nl2 nl3 cap1 cap2 cap3 a b c vs v
theorem WM (k:Int) (n1 n2 n3:Nat) (nl1 nl2 nl3:Option Bool) (cap1 cap2 cap3:Option Nat) (a b:List Int) (c:List Bool) (vs:Int) (v:List Int) (hl:v.length≤274877906944) (hok: ∀i,i<v.length→(0≤v.getD i 0∧v.getD i 0<n2)∧(v.getD i 0).toNat<b.length):
  aS Tryz.prog 3 (.block 0 (.loop (a0 0 (a5 eT)))) (jH k n1 n2 n3 nl1 nl2 nl3 cap1 cap2 cap3 a b c vs v 0) fun e t=>e=qV (dQ (fun x=>b.getD x.toNat 0 !=vs) v)∧t=OP k n1 n2 n3 nl1 nl2 nl3 cap1 cap2 cap3 a b c vs v (dQ (fun x=>b.getD x.toNat 0 !=vs) v):=by
 refine aS.roundsR hT t27 bK (m:=3) (id:=0) (body:=a0 0 (a5 eT)) (α:=Nat)
  (fun i=>i≤v.length∧dA (fun x=>b.getD x.toNat 0 !=vs) v (v.length-i) i=dQ (fun x=>b.getD x.toNat 0 !=vs) v) (fun i=>jH k n1 n2 n3 nl1 nl2 nl3 cap1 cap2 cap3 a b c vs v i) (fun i=>v.length-i) (a8 eT 0) (aA eT 0)
  (fun _=>qV (dQ (fun x=>b.getD x.toNat 0 !=vs) v)) (fun _=>OP k n1 n2 n3 nl1 nl2 nl3 cap1 cap2 cap3 a b c vs v (dQ (fun x=>b.getD x.toNat 0 !=vs) v)) (fun _=>[]) (fun _ _=>aI.nil) (fun i hx=> ?_) 0 ⟨by simp,rfl⟩
 obtain⟨h1,h3⟩:=hx
 by_cases hi:i<v.length
 ·have hk:v.length-i=(v.length-(i+1))+1:=by omega
  rw[hk]at h3
  simp only[dA]at h3
  obtain⟨⟨ho1,ho2⟩,ho3⟩:=hok i hi
  cases hz:(fun x=>b.getD x.toNat 0 !=vs) (v.getD i 0)with
  |false=>
   dsimp only at hz
   rw[hz]at h3
   have e:=MO k n1 n2 n3 nl1 nl2 nl3 cap1 cap2 cap3 a b c vs v i
   rw[aB (by omega) (by omega),Int.toNat_natCast]at e
   refine⟨_,_,_,_,_,_,e, ?_,by simp,.inl ⟨rfl,i+1,⟨by omega,by simpa using h3⟩,by omega,rfl,rfl,rfl⟩⟩
   simp only[hz,Bool.not_false,Bool.true_and,rpS,Bool.and_true,Bool.and_eq_true,decide_eq_true_eq]
   omega
  |true=>
   dsimp only at hz
   rw[hz]at h3
   simp only[cond_true]at h3
   have e:=MN k n1 n2 n3 nl1 nl2 nl3 cap1 cap2 cap3 a b c vs v i
   rw[Int.toNat_natCast]at e
   refine⟨_,_,_,_,_,_,e, ?_,by simp,.inr (.inr ⟨by simp,by simp, ?_, ?_⟩)⟩
   ·simp only[hz,Bool.true_and,rpS,Bool.and_true,Bool.and_eq_true,decide_eq_true_eq]
    omega
   ·rw[←h3];rfl
   ·rw[←h3];rfl
 ·have hz:v.length-i=0:=by omega
  rw[hz]at h3
  simp only[dA]at h3
  exact⟨_,_,_,_,_,_,MP k n1 n2 n3 nl1 nl2 nl3 cap1 cap2 cap3 a b c vs v i,by simp;omega,by simp,.inr (.inl ⟨rfl,by rw[←h3];rfl,by rw[←h3];rfl⟩)⟩
def d7 (v:List Int) (n:Nat):Bool:=v.all fun x=>decide (0≤x)&&decide (x<n)
theorem gY {v:List Int} {n:Nat} (h:d7 v n=true) {i:Nat} (hi:i<v.length):0≤v.getD i 0∧v.getD i 0<n:=by
 rw[List.getD_eq_getElem?_getD,List.getElem?_eq_getElem hi]
 have:=List.all_eq_true.1 h _ (List.getElem_mem hi)
 simpa using this
def wC:aN:=fun args h=>
 match args,h with
 |[.c (.sl 0 0 n 1 none),.c (.fn 155 [.ptr 1 0 0 0,.ptr 2 0 0 0])],[.live (.ints .i64 v),.live (.cells [.int .i64 k,.view nl1 (.ints .i64 a) n1 1 cap1,.view nl2 (.ints .i64 b) n2 1 cap2,.view nl3 (.bools c) n3 1 cap3]),.live (.ints .i64 [vs])]=>
  some (.c (.int .i64 (cR (fun x=>b.getD x.toNat 0 !=vs) v)),[.live (.ints .i64 v),.live (.cells [.int .i64 k,.view nl1 (.ints .i64 a) n1 1 cap1,.view nl2 (.ints .i64 b) n2 1 cap2,.view nl3 (.bools c) n3 1 cap3]),.live (.ints .i64 [vs])],[decide (v.length≤274877906944),decide (v.length=n),d7 v b.length,decide (n2=b.length)])
 |_,_=>none
theorem O2 (k:Int) (n1 n2 n3:Nat) (nl1 nl2 nl3:Option Bool) (cap1 cap2 cap3:Option Nat) (a b:List Int) (c:List Bool) (vs:Int) (v:List Int):aD tt (a9 T27) ([(0,⟨a8 eT 0,jH k n1 n2 n3 nl1 nl2 nl3 cap1 cap2 cap3 a b c vs v 0,.normal,GM k n1 n2 n3 nl1 nl2 nl3 cap1 cap2 cap3 a b c vs v⟩)]) 100 eT [.c (.sl 0 0 v.length 1 none),.c (.fn 155 [.ptr 1 0 0 0,.ptr 2 0 0 0])] [.live (.ints .i64 v),.live (.cells [.int .i64 k,.view nl1 (.ints .i64 a) n1 1 cap1,.view nl2 (.ints .i64 b) n2 1 cap2,.view nl3 (.bools c) n3 1 cap3]),.live (.ints .i64 [vs])] []=
  some ⟨.c (.int .i64 (-1)),[.live (.ints .i64 v),.live (.cells [.int .i64 k,.view nl1 (.ints .i64 a) n1 1 cap1,.view nl2 (.ints .i64 b) n2 1 cap2,.view nl3 (.bools c) n3 1 cap3]),.live (.ints .i64 [vs])],true,[jH k n1 n2 n3 nl1 nl2 nl3 cap1 cap2 cap3 a b c vs v 0=jH k n1 n2 n3 nl1 nl2 nl3 cap1 cap2 cap3 a b c vs v 0]⟩:=by kernel_rfl
theorem O3 (k:Int) (n1 n2 n3:Nat) (nl1 nl2 nl3:Option Bool) (cap1 cap2 cap3:Option Nat) (a b:List Int) (c:List Bool) (vs:Int) (v:List Int) (j:Nat):aD tt (a9 T27) ([(0,⟨a8 eT 0,jH k n1 n2 n3 nl1 nl2 nl3 cap1 cap2 cap3 a b c vs v 0,.ret,GS k n1 n2 n3 nl1 nl2 nl3 cap1 cap2 cap3 a b c vs v j⟩)]) 100 eT [.c (.sl 0 0 v.length 1 none),.c (.fn 155 [.ptr 1 0 0 0,.ptr 2 0 0 0])] [.live (.ints .i64 v),.live (.cells [.int .i64 k,.view nl1 (.ints .i64 a) n1 1 cap1,.view nl2 (.ints .i64 b) n2 1 cap2,.view nl3 (.bools c) n3 1 cap3]),.live (.ints .i64 [vs])] []=
  some ⟨.c (.int .i64 (↑j:Int)),[.live (.ints .i64 v),.live (.cells [.int .i64 k,.view nl1 (.ints .i64 a) n1 1 cap1,.view nl2 (.ints .i64 b) n2 1 cap2,.view nl3 (.bools c) n3 1 cap3]),.live (.ints .i64 [vs])],true,[jH k n1 n2 n3 nl1 nl2 nl3 cap1 cap2 cap3 a b c vs v 0=jH k n1 n2 n3 nl1 nl2 nl3 cap1 cap2 cap3 a b c vs v 0]⟩:=by kernel_rfl
theorem X8:aP Tryz.prog 176 wC:=by
 intro args h res h' o he ho
 unfold wC at he
 split at he
 case h_2=>cases he
 rename_i n v k nl1 a n1 cap1 nl2 b n2 cap2 nl3 c n3 cap3 vs
 simp only[Option.some.injEq,Prod.mk.injEq]at he
 obtain⟨rfl,rfl,rfl⟩:=he
 simp only[List.mem_cons,List.not_mem_nil,or_false,forall_eq_or_imp,forall_eq,decide_eq_true_eq]at ho
 obtain⟨o1,o2,o3,o4⟩:=ho
 subst o2
 have g:=WM k n1 n2 n3 nl1 nl2 nl3 cap1 cap2 cap3 a b c vs v o1 (fun i hi=>by have:=gY o3 hi;omega)
 unfold cR
 cases hx:dQ (fun x=>b.getD x.toNat 0 !=vs) v with
 |none=>
  rw[hx]at g
  exact mo (fn:=eT) t27 (O2 k n1 n2 n3 nl1 nl2 nl3 cap1 cap2 cap3 a b c vs v) rfl (hlc:=(fun cc hc=>aI.cons (c:=cc) (by cases hc;kernel_rfl) (by cases hc;exact g) aI.nil))
 |some j=>
  rw[hx]at g
  exact mo (fn:=eT) t27 (O3 k n1 n2 n3 nl1 nl2 nl3 cap1 cap2 cap3 a b c vs v j) rfl (hlc:=(fun cc hc=>aI.cons (c:=cc) (by cases hc;kernel_rfl) (by cases hc;exact g) aI.nil))
noncomputable def T28:List bD:=[⟨176,[0,1],wC⟩]++T27
theorem e28:a6 Tryz.prog T28:=by
 refine a6.append ?_ e27
 intro e he
 simp only[List.mem_cons,List.not_mem_nil,or_false]at he
 subst he;exact X8
theorem t28:bJ Tryz.prog (a9 T28):=aM e28
noncomputable abbrev f141:=Tryz.f154
end
section
def c6 (s t:aW):Prop:= ∀(X:Nat→Prop) (w:World) (ρ:Rho) (x:Wh),dT X w ρ s x→dT X w ρ t x
theorem c6.refl (s:aW):c6 s s:=fun _ _ _ _ h=>h
theorem c6.take (k:IntKind) (xs:List Int) (n:Nat):c6 (.live (.ints k xs)) (.live (.ints k (xs.take n))):=fun X w ρ x h=>by
 cases x with
 |unborn=>exact h.elim
 |dead=>exact h.elim
 |nil=>simp only[dT,Con.size,List.length_take]at h⊢;omega
 |row b=>
  obtain⟨cs,ty,h1,h2,h3⟩:=h
  simp only[Con.size]at h2 h3
  refine⟨cs,ty,h1,by simp only[Con.size,List.length_take];omega,fun q hq=> ?_⟩
  simp only[Con.size,List.length_take]at hq
  have:=h3 q (by omega)
  simp only[Con.cell]at this⊢
  rw[List.getD_eq_getElem?_getD,List.getElem?_take,if_pos (by omega),←List.getD_eq_getElem?_getD]
  exact this
def nV:List aW→List aW→Prop
 |[],[]=>True
 |s::r,t::r'=>c6 s t∧nV r r'
 |_,_=>False
theorem kJ: ∀ {h h':List aW},nV h h'→ ∀id,c6 (Heap.get h id) (Heap.get h' id)
 |[],[],_,id=>c6.refl _
 |s::r,t::r',h,0=>h.1
 |s::r,t::r',h,id+1=>by
  have:=kJ h.2 id
  simpa [Heap.get]using this
 |[],_::_,h,_=>h.elim
 |_::_,[],h,_=>h.elim
theorem bA.slots {P:Program} {f:FuncId} {args:List AV} {h h' h'':List aW} {res:AV} (hm:bA P f args h res h') (hs:nV h' h''):bA P f args h res h'':=by
 refine⟨hm.1,fun {X w0 ρ0} m vs hl hv=> ?_⟩
 refine Calls.mono (hm.2 m vs hl hv) ?_
 rintro e w' ⟨v,ρ',rfl,mb,im,m',hr⟩
 exact⟨v,ρ',rfl,mb,im,⟨fun id=>kJ hs id _ _ _ _ (m'.slot id),m'.inj,m'.own,m'.os,m'.tape,m'.output,m'.size,m'.keep,m'.foreign⟩,hr⟩
theorem bA.nilTup {P:Program} {f:FuncId} {args:List AV} {h h':List aW} {es:Nat} {c0:Con} {r:List AV} (hm:bA P f args h (.tup (.c .nils::r)) h') (hc:c0.size=0):
  bA P f args h (.tup (.c (.sl h'.length 0 0 es none)::r)) (h'++[.live c0]):=by
 refine⟨hm.1,fun {X w0 ρ0} m vs hl hv=> ?_⟩
 refine Calls.mono (hm.2 m vs hl hv) ?_
 rintro e w' ⟨v,ρ',rfl,mb,im,m',hr⟩
 obtain⟨hun,m2⟩:=m'.addNil hc
 have mo:=fR w' hun
 refine⟨v,_,rfl,mb.trans mo.toB,im.trans mo.ids,m2, ?_⟩
 cases hr with
 |tup l vs hs hx=>
  refine .tup _ _ (by simpa using hs) fun i hi=> ?_
  cases i with
  |zero=>
   have h0:=hx 0 (by simp)
   simp only[List.getD_cons_zero]at h0⊢
   cases h0 with
   |c x v hx=>exact .c _ _ (iO hx)
  |succ i=>
   have:=hx (i+1) (by simpa using hi)
   simp only[List.getD_cons_succ]at this⊢
   exact this.mono mo
def sW (id es:Nat):List aF→Option (List aF)
 |[]=>none
 |.nils::r=>some (.sl id 0 0 es none::r)
 |x::r=>(sW id es r).map (x:: ·)
def zJ (id es:Nat):AV→Option AV
 |.c .nils=>some (.c (.sl id 0 0 es none))
 |.agg l=>(sW id es l).map .agg
 |_=>none
def zK (id es:Nat):List AV→Option (List AV)
 |[]=>none
 |x::r=>match zJ id es x with
  |some y=>some (y::r)
  |none=>(zK id es r).map (x:: ·)
def nil1 (id es:Nat):AV→Option AV
 |.tup l=>(zK id es l).map .tup
 |x=>zJ id es x
theorem qC {X:Nat→Prop} {w:World} {ρ:Rho} {id es:Nat} (hun:ρ id=.unborn): ∀ {l l':List aF},sW id es l=some l'→
  l'.length=l.length∧ ∀i v,CR X w ρ (l.getD i .any) v→CR X w (upd ρ id .nil) (l'.getD i .any) v
 |[],l',h=>by simp[sW]at h
 |x::r,l',h=>by
  have mo:=fR w hun
  by_cases hx:x=.nils
  ·subst hx
   simp only[sW,Option.some.injEq]at h
   subst h
   refine⟨rfl,fun i v hv=> ?_⟩
   cases i with
   |zero=>simp only[List.getD_cons_zero]at hv⊢;exact iO hv
   |succ i=>simp only[List.getD_cons_succ]at hv⊢;exact hv.mono mo
  ·have hh:sW id es (x::r)=(sW id es r).map (x:: ·):=by
    cases x<;>first|rfl|exact absurd rfl hx
   rw[hh]at h
   obtain⟨r',h1,h2⟩:=Option.map_eq_some_iff.1 h
   subst h2
   obtain⟨g1,g2⟩:=qC (X:=X) (w:=w) hun h1
   refine⟨by simp[g1],fun i v hv=> ?_⟩
   cases i with
   |zero=>simp only[List.getD_cons_zero]at hv⊢;exact hv.mono mo
   |succ i=>simp only[List.getD_cons_succ]at hv⊢;exact g2 i v hv
theorem kD {X:Nat→Prop} {w:World} {ρ:Rho} {id es:Nat} (hun:ρ id=.unborn) {x y:AV} {v:Value} (h:zJ id es x=some y) (hx:AVR X w ρ x v):AVR X w (upd ρ id .nil) y v:=by
 unfold zJ at h
 split at h
 ·injection h with h;subst h
  cases hx with
  |c x v hx=>exact .c _ _ (iO hx)
 ·obtain⟨l',h1,h2⟩:=Option.map_eq_some_iff.1 h
  subst h2
  cases hx with
  |agg cs vs hs hx=>
   obtain⟨g1,g2⟩:=qC (X:=X) (w:=w) hun h1
   exact .agg _ _ (by rw[g1];exact hs) fun i hi=>g2 i _ (hx i (by rw[←g1];exact hi))
 ·cases h
theorem qD {X:Nat→Prop} {w:World} {ρ:Rho} {id es:Nat} (hun:ρ id=.unborn): ∀ {l l':List AV},zK id es l=some l'→
  l'.length=l.length∧ ∀i v,i<l.length→AVR X w ρ (l.getD i (.tup [])) v→AVR X w (upd ρ id .nil) (l'.getD i (.tup [])) v
 |[],l',h=>by simp[zK]at h
 |x::r,l',h=>by
  have mo:=fR w hun
  simp only[zK]at h
  split at h
  ·rename_i y hy
   injection h with h;subst h
   refine⟨rfl,fun i v hi hv=> ?_⟩
   cases i with
   |zero=>simp only[List.getD_cons_zero]at hv⊢;exact kD hun hy hv
   |succ i=>simp only[List.getD_cons_succ]at hv⊢;exact hv.mono mo
  ·obtain⟨r',h1,h2⟩:=Option.map_eq_some_iff.1 h
   subst h2
   obtain⟨g1,g2⟩:=qD (X:=X) (w:=w) hun h1
   refine⟨by simp[g1],fun i v hi hv=> ?_⟩
   cases i with
   |zero=>simp only[List.getD_cons_zero]at hv⊢;exact hv.mono mo
   |succ i=>simp only[List.getD_cons_succ]at hv⊢;exact g2 i v (by simpa using hi) hv
theorem bA.nil1 {P:Program} {f:FuncId} {args:List AV} {h h':List aW} {es:Nat} {c0:Con} {res res':AV} (hm:bA P f args h res h') (hc:c0.size=0) (hr:Am.nil1 h'.length es res=some res'):
  bA P f args h res' (h'++[.live c0]):=by
 refine⟨hm.1,fun {X w0 ρ0} m vs hl hv=> ?_⟩
 refine Calls.mono (hm.2 m vs hl hv) ?_
 rintro e w' ⟨v,ρ',rfl,mb,im,m',hx⟩
 obtain⟨hun,m2⟩:=m'.addNil hc
 have mo:=fR w' hun
 refine⟨v,_,rfl,mb.trans mo.toB,im.trans mo.ids,m2, ?_⟩
 cases hx with
 |tup l vs hs hx=>
  simp only[Am.nil1]at hr
  obtain⟨l',h1,h2⟩:=Option.map_eq_some_iff.1 hr
  subst h2
  obtain⟨g1,g2⟩:=qD (X:=X) (w:=w') hun h1
  exact .tup _ _ (by rw[g1];exact hs) fun i hi=>g2 i _ (by rw[←g1];exact hi) (hx i (by rw[←g1];exact hi))
 |any=>simp[Am.nil1,zJ]at hr
 |c x v hx=>exact kD hun (by simpa only[Am.nil1]using hr) (.c x v hx)
 |agg cs vs hs hx=>exact kD hun (by simpa only[Am.nil1]using hr) (.agg cs vs hs hx)
end
end Go.Proofs.YthapjdpkelihiaaGreat.Am
