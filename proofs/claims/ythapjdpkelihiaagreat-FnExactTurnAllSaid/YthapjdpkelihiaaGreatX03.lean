/- DERIVED. Part 3 of the proof: C16, C17, Am27, Am28, C18, C19, C20, Am29, C21, C22, C23, C24, Am30, C25, C26, C27, Am31. No statement of the program is proved here. -/
import Derived.Test.YthapjdpkelihiaaGreatX02
set_option linter.unusedSimpArgs false
set_option linter.unusedVariables false
set_option linter.unusedSectionVars false
section
namespace Go.Proofs.YthapjdpkelihiaaGreat.Am
def T13:List Entry:=[⟨186,[],FFvminus⟩]++T12
theorem e13:EntriesOk Tryz.prog T13:=by
 refine EntriesOk.append ?_ e12
 intro e he
 simp only[List.mem_cons,List.not_mem_nil,or_false]at he
 subst he;exact m163
theorem t13:CtOk Tryz.prog (ctOf T13):=ctOf_ok e13
noncomputable abbrev f183:=Tryz.f215
noncomputable def I183 (nl:Option Bool) (cap:Option Nat) (v:List Int) (i:Int):St:=
 stOf f183.ntmps [(0,.c (.view nl (.ints .i64 v) v.length 1 cap)),(1,.c (.fn 216 [])),(7,.c (.int .i64 v.length)),(8,.c (.int .i64 i))] []
noncomputable def X183:St:=stOf f183.ntmps [] []
noncomputable def Y183 (i:Int):St:=stOf f183.ntmps [(4,.c (.int .i64 i))] []
section
variable (nl : Option Bool) (cap : Option Nat) (v : List Int) (i : Int)
theorem r183_1:roundR 0 (liveH f183 0) (liveB' f183 0) (evalC tt (ctOf T13) [] 0 100 (bodyAt 0 (codeOf f183)) (I183 nl cap v i) [(0,true),(0,true)])=
  some (.ret,(decide (i<v.length)&&(decide (0≤i)&&(decide (i<v.length)&&(decide (i.toNat<v.length)&&((v.getD i.toNat 0 !=0)&&true))))),[],Y183 i):=by kernel_rfl
theorem r183_2:roundR 0 (liveH f183 0) (liveB' f183 0) (evalC tt (ctOf T13) [] 0 100 (bodyAt 0 (codeOf f183)) (I183 nl cap v i) [(0,true),(0,false)])=
  some (.normal,(decide (i<v.length)&&(decide (0≤i)&&(decide (i<v.length)&&(decide (i.toNat<v.length)&&(!(v.getD i.toNat 0 !=0)&&true))))),[],I183 nl cap v (IntKind.i64.wrap (i+1))):=by kernel_rfl
theorem r183_3:roundR 0 (liveH f183 0) (liveB' f183 0) (evalC tt (ctOf T13) [] 0 100 (bodyAt 0 (codeOf f183)) (I183 nl cap v i) [(0,false)])=
  some (.exit 0,(!decide (i<v.length)&&true),[],X183):=by kernel_rfl
end
noncomputable def p183:Option Nat→St
 |some j=>Y183 j
 |none=>X183
theorem l183 (nl:Option Bool) (cap:Option Nat) (v:List Int) (hl:v.length≤274877906944):
  Good Tryz.prog 0 (.block 0 (.loop (bodyAt 0 (codeOf f183)))) (I183 nl cap v 0) fun e t=>e=e154 (idxO (fun x=>x !=0) v)∧t=p183 (idxO (fun x=>x !=0) v):=by
 refine Good.roundsR hT t13 hmix (m:=0) (id:=0) (body:=bodyAt 0 (codeOf f183)) (α:=Nat)
  (fun i=>i≤v.length∧idxAt (fun x=>x !=0) v (v.length-i) i=idxO (fun x=>x !=0) v) (fun i=>I183 nl cap v i) (fun i=>v.length-i) (liveH f183 0) (liveB' f183 0)
  (fun _=>e154 (idxO (fun x=>x !=0) v)) (fun _=>p183 (idxO (fun x=>x !=0) v)) (fun _=>[]) (fun _ _=>LcOk.nil) (fun i hx=> ?_) 0 ⟨by simp,rfl⟩
 obtain⟨h1,h3⟩:=hx
 by_cases hi:i<v.length
 ·have hk:v.length-i=(v.length-(i+1))+1:=by omega
  rw[hk]at h3
  simp only[idxAt]at h3
  cases hz:(v.getD i 0 !=0)with
  |false=>
   rw[hz]at h3
   refine⟨_,_,_,_,_,_,r183_2 nl cap v i, ?_,by simp,.inl ⟨rfl,i+1,⟨by omega,by simpa using h3⟩,by omega, ?_,rfl,rfl⟩⟩
   ·rw[Int.toNat_natCast,hz];simp[hi]
   ·rw[wrap_small (by omega) (by omega)];simp
  |true=>
   rw[hz]at h3
   simp only[cond_true]at h3
   refine⟨_,_,_,_,_,_,r183_1 nl cap v i, ?_,by simp,.inr (.inr ⟨by simp,by simp, ?_, ?_⟩)⟩
   ·rw[Int.toNat_natCast,hz];simp[hi]
   ·rw[←h3];rfl
   ·rw[←h3];rfl
 ·have hz:v.length-i=0:=by omega
  rw[hz]at h3
  simp only[idxAt]at h3
  exact⟨_,_,_,_,_,_,r183_3 nl cap v i,by simp;omega,by simp,.inr (.inl ⟨rfl,by rw[←h3];rfl,by rw[←h3];rfl⟩)⟩
def FFidxNz:Model:=fun args h=>
 match args,h with
 |[.c (.view nl (.ints .i64 v) len 1 cap),.c (.fn 216 [])],[]=>some (.c (.int .i64 (idxL (fun x=>x !=0) v)),[],[decide (v.length≤274877906944)])
 |_,_=>none
theorem m183:ModelOk Tryz.prog 215 FFidxNz:=by
 intro args h res h' o he ho
 unfold FFidxNz at he
 split at he
 ·rename_i nl v len cap
  simp only[Option.some.injEq,Prod.mk.injEq]at he
  obtain⟨rfl,rfl,rfl⟩:=he
  have o1:v.length≤274877906944:=by simpa using ho
  refine Meets.len ⟨f183,by kernel_rfl,by kernel_rfl,by kernel_rfl⟩ fun hlen=> ?_
  simp only[List.mem_cons,List.not_mem_nil,or_false,forall_eq_or_imp,forall_eq,AV.lenOk,Cell.lenOk,Con.size,Nat.mul_one]at hlen
  obtain⟨rfl,-⟩:=hlen
  have g:=l183 nl cap v o1
  unfold idxL
  cases hx:idxO (fun x=>x !=0) v with
  |none=>
   rw[hx]at g
   exact meets_of t13 (fn:=f183) (lc:=[(0,⟨liveH f183 0,I183 nl cap v 0,.normal,X183⟩)]) (fuel:=100) (p:=[]) (o:=⟨_,_,true,[I183 nl cap v 0=I183 nl cap v 0]⟩)
    (by kernel_rfl) (by kernel_rfl) (by kernel_rfl) rfl (by simp) (fun cc hc=>LcOk.cons (c:=cc) (by cases hc;kernel_rfl) (by cases hc;exact g) LcOk.nil)
  |some j=>
   rw[hx]at g
   exact meets_of t13 (fn:=f183) (lc:=[(0,⟨liveH f183 0,I183 nl cap v 0,.ret,Y183 j⟩)]) (fuel:=100) (p:=[]) (o:=⟨_,_,true,[I183 nl cap v 0=I183 nl cap v 0]⟩)
    (by kernel_rfl) (by kernel_rfl) (by kernel_rfl) rfl (by simp) (fun cc hc=>LcOk.cons (c:=cc) (by cases hc;kernel_rfl) (by cases hc;exact g) LcOk.nil)
 ·cases he
def T14:List Entry:=[⟨215,[],FFidxNz⟩]++T13
theorem e14:EntriesOk Tryz.prog T14:=by
 refine EntriesOk.append ?_ e13
 intro e he
 simp only[List.mem_cons,List.not_mem_nil,or_false]at he
 subst he;exact m183
theorem t14:CtOk Tryz.prog (ctOf T14):=ctOf_ok e14
def FFvlead:Model:=fun args h=>
 match args,h with
 |[.agg [.int .i64 a,.int .i64 b,.int .i64 c,.int .i64 d]],[]=>some (.c (.int .i64 (idxL (fun x=>x !=0) [a,b,c,d])),[],[])
 |_,_=>none
theorem m162:ModelOk Tryz.prog 185 FFvlead:=by
 intro args h res h' o he ho
 unfold FFvlead at he
 split at he
 ·rename_i a b c d
  simp only[Option.some.injEq,Prod.mk.injEq]at he
  obtain⟨rfl,rfl,rfl⟩:=he
  have e:evalF tt (ctOf T14) [] 100 Tryz.f185 [.agg [.int .i64 a,.int .i64 b,.int .i64 c,.int .i64 d]] [] []=some ⟨.c (.int .i64 (idxL (fun x=>x !=0) [a,b,c,d])),[],true,[]⟩:=by kernel_rfl
  exact meets_of t14 (by kernel_rfl) (by kernel_rfl) e rfl (by simp) (fun c _=>LcOk.nil)
 ·cases he
end Go.Proofs.YthapjdpkelihiaaGreat.Am
end
section
namespace Go.Proofs.YthapjdpkelihiaaGreat.Am
def T15:List Entry:=[⟨185,[],FFvlead⟩]++T14
theorem e15:EntriesOk Tryz.prog T15:=by
 refine EntriesOk.append ?_ e14
 intro e he
 simp only[List.mem_cons,List.not_mem_nil,or_false]at he
 subst he;exact m162
theorem t15:CtOk Tryz.prog (ctOf T15):=ctOf_ok e15
def row4 (k a:Int):List Int:=[(rowL k a).getD 0 0,(rowL k a).getD 1 0,(rowL k a).getD 2 0,(rowL k a).getD 3 0]
def rowsAt (k:Int) (v:List Int):Nat→Nat→List Int
 |0,_=>[]
 |m+1,i=>row4 k (v.getD i 0)++rowsAt k v m (i+1)
def rowsL (k:Int) (v:List Int):List Int:=rowsAt k v v.length 0
def allShard (v:List Int):Bool:=v.all fun a=>bet a 0 7
theorem allShard_get {v:List Int} (h:allShard v=true) {i:Nat} (hi:i<v.length):bet (v.getD i 0) 0 7=true:=by
 rw[List.getD_eq_getElem?_getD,List.getElem?_eq_getElem hi]
 exact List.all_eq_true.1 h _ (List.getElem_mem hi)
noncomputable abbrev f160:=Tryz.f183
noncomputable def I160 (nl:Option Bool) (cap:Option Nat) (k:Int) (v:List Int) (i:Int) (n:Nat) (out:List Int):St:=
 stOf f160.ntmps [(0,.c (.int .i64 k)),(5,.c (.sl 0 0 n 4 none)),(11,.c (.view nl (.ints .i64 v) v.length 1 cap)),(12,.c (.int .i64 v.length)),(13,.c (.int .i64 i))] [.live (.ints .i64 out)]
noncomputable def X160 (n:Nat) (out:List Int):St:=stOf f160.ntmps [(5,.c (.sl 0 0 n 4 none))] [.live (.ints .i64 out)]
section
variable (nl : Option Bool) (cap : Option Nat) (k : Int) (v : List Int) (i : Int) (n : Nat) (out : List Int)
theorem r160_1:roundR 0 (liveH f160 0) (liveB' f160 0) (evalC tt (ctOf T15) [] 0 100 (bodyAt 0 (codeOf f160)) (I160 nl cap k v i n out) [(0,true)])=
  some (.normal,(decide (i<v.length)&&(decide (0≤i)&&(decide (i<v.length)&&(decide (i.toNat<v.length)&&(bet k 1 2&&(bet (v.getD i.toNat 0) 0 7&&(decide (ix n 4 0=out.length)&&(decide (n+1≤274877906944)&&true)))))))),[],
   I160 nl cap k v (IntKind.i64.wrap (i+1)) (n+1) (out++row4 k (v.getD i.toNat 0))):=by kernel_rfl
theorem r160_2:roundR 0 (liveH f160 0) (liveB' f160 0) (evalC tt (ctOf T15) [] 0 100 (bodyAt 0 (codeOf f160)) (I160 nl cap k v i n out) [(0,false)])=
  some (.exit 0,(!decide (i<v.length)&&true),[],X160 n out):=by kernel_rfl
end
theorem l160 (nl:Option Bool) (cap:Option Nat) (k:Int) (v:List Int) (hl:v.length≤274877906944) (hk:bet k 1 2=true) (hv:allShard v=true):
  Good Tryz.prog 0 (.block 0 (.loop (bodyAt 0 (codeOf f160)))) (I160 nl cap k v 0 0 []) fun e t=>e=.normal∧t=X160 v.length (rowsL k v):=by
 refine Good.roundsN hT t15 hmix (m:=0) (id:=0) (body:=bodyAt 0 (codeOf f160)) (α:=Nat×List Int)
  (fun x=>x.1≤v.length∧x.2.length=x.1*4∧x.2++rowsAt k v (v.length-x.1) x.1=rowsL k v) (fun x=>I160 nl cap k v x.1 x.1 x.2) (fun x=>v.length-x.1) (liveH f160 0) (liveB' f160 0)
  (fun _=>X160 v.length (rowsL k v)) (fun _=>[]) (fun _ _=>LcOk.nil) (fun x hx=> ?_) (0,[]) ⟨by simp,rfl,rfl⟩
 obtain⟨i,out⟩:=x
 obtain⟨h1,h2,h3⟩:=hx
 dsimp only at h1 h2 h3⊢
 by_cases hi:i<v.length
 ·have hkk:v.length-i=(v.length-(i+1))+1:=by omega
  rw[hkk]at h3
  simp only[rowsAt]at h3
  refine⟨_,_,_,_,_,_,r160_1 nl cap k v i i out, ?_,by simp,.inl ⟨rfl,(i+1,out++row4 k (v.getD i 0)),⟨by omega,by simp[h2,row4];omega,by simpa using h3⟩,by dsimp only;omega, ?_,rfl⟩⟩
  ·rw[Int.toNat_natCast,hk,allShard_get hv hi,ix_eq];simp;omega
  ·rw[wrap_small (by omega) (by omega),Int.toNat_natCast];simp
 ·have hz:v.length-i=0:=by omega
  rw[hz]at h3
  simp only[rowsAt,List.append_nil]at h3
  have e:i=v.length:=by omega
  exact⟨_,_,_,_,_,_,r160_2 nl cap k v i i out,by simp;omega,by simp,.inr ⟨rfl,by rw[←h3,e]⟩⟩
def FFrows:Model:=fun args h=>
 match args,h with
 |[.c (.int .i64 k),.c (.view nl (.ints .i64 v) len 1 cap)],[]=>
  some (.c (.sl 0 0 v.length 4 none),[.live (.ints .i64 (rowsL k v))],[decide (v.length≤274877906944),bet k 1 2,allShard v])
 |_,_=>none
theorem m160:ModelOk Tryz.prog 183 FFrows:=by
 intro args h res h' o he ho
 unfold FFrows at he
 split at he
 ·rename_i k nl v len cap
  simp only[Option.some.injEq,Prod.mk.injEq]at he
  obtain⟨rfl,rfl,rfl⟩:=he
  simp only[List.mem_cons,List.not_mem_nil,or_false,forall_eq_or_imp,forall_eq,decide_eq_true_eq]at ho
  obtain⟨o1,o2,o3⟩:=ho
  refine Meets.len ⟨f160,by kernel_rfl,by kernel_rfl,by kernel_rfl⟩ fun hlen=> ?_
  simp only[List.mem_cons,List.not_mem_nil,or_false,forall_eq_or_imp,forall_eq,AV.lenOk,Cell.lenOk,Con.size,Nat.mul_one]at hlen
  obtain⟨-,rfl⟩:=hlen
  exact meets_of t15 (fn:=f160) (lc:=[(0,⟨liveH f160 0,I160 nl cap k v 0 0 [],.normal,X160 v.length (rowsL k v)⟩)]) (fuel:=100) (p:=[])
   (o:=⟨_,_,decide (0≤(v.length:Int))&&(decide ((v.length:Int)≤274877906944)&&true),[I160 nl cap k v 0 0 []=I160 nl cap k v 0 0 []]⟩)
   (by kernel_rfl) (by kernel_rfl) (by kernel_rfl) (by simp;omega) (by simp) (fun cc hc=>LcOk.cons (c:=cc) (by cases hc;kernel_rfl) (by cases hc;exact l160 nl cap k v o1 o2 o3) LcOk.nil)
 ·cases he
end Go.Proofs.YthapjdpkelihiaaGreat.Am
end
section
namespace Go.Proofs.YthapjdpkelihiaaGreat.Am
def nlen (es len n:Nat):Nat:=match es with
 |1=>n
 |_=>len
theorem nlen_nlen (es len n:Nat):nlen es (nlen es len n) n=nlen es len n:=by
 unfold nlen;split<;>simp
theorem nlen_eq {es len n:Nat} (h:len*es=n):nlen es len n=len:=by
 unfold nlen;split<;>omega
def Cell.norm:Cell→Cell
 |.view _ c len es _=> .view none c (nlen es len c.size) es none
 |x=>x
def normL:List Cell→List Cell
 |[]=>[]
 |x::r=>x.norm::normL r
def AV.norm:AV→AV
 |.c x=> .c x.norm
 |.agg cs=> .agg (normL cs)
 |x=>x
def normA:List AV→List AV
 |[]=>[]
 |x::r=>x.norm::normA r
theorem Cell.norm_norm (x:Cell):x.norm.norm=x.norm:=by
 cases x<;>simp[Cell.norm,nlen_nlen]
theorem normL_normL: ∀l:List Cell,normL (normL l)=normL l
 |[]=>rfl
 |x::r=>by simp[normL,Cell.norm_norm,normL_normL r]
theorem AV.norm_norm (x:AV):x.norm.norm=x.norm:=by
 cases x<;>simp[AV.norm,Cell.norm_norm,normL_normL]
theorem normA_normA: ∀l:List AV,normA (normA l)=normA l
 |[]=>rfl
 |x::r=>by simp[normA,AV.norm_norm,normA_normA r]
theorem normL_len: ∀l:List Cell,(normL l).length=l.length
 |[]=>rfl
 |x::r=>by simp[normL,normL_len r]
theorem normA_len: ∀l:List AV,(normA l).length=l.length
 |[]=>rfl
 |x::r=>by simp[normA,normA_len r]
theorem normL_getD: ∀(l:List Cell) (i:Nat),(normL l).getD i .any=(l.getD i .any).norm
 |[],i=>by simp[normL,Cell.norm]
 |x::r,0=>by simp[normL]
 |x::r,i+1=>by simpa [normL]using normL_getD r i
theorem normA_getD: ∀(l:List AV) (i:Nat),(normA l).getD i .any=(l.getD i .any).norm
 |[],i=>by simp[normA,AV.norm]
 |x::r,0=>by simp[normA]
 |x::r,i+1=>by simpa [normA]using normA_getD r i
theorem CR0.norm {w:World} {L:Nat→Prop} {ρ:Rho} {c:Cell} {v:Value} (h:CR0 w L ρ c v):CR0 w L ρ c.norm v:=by
 have h0:=h
 cases h with
 |view nl c len es cap b base k u hl hc hu hz hk hcap hnl=>
  simp only[Cell.norm]
  rw[nlen_eq hz]
  exact .view none _ _ _ none b base k u hl hc hu hz hk (fun _ h=>by cases h) (fun _ h=>by cases h)
 |viewNone nl c es cap a k hz hcap hnl hk=>
  simp only[Cell.norm]
  rw[nlen_eq (by rw[hz];simp)]
  exact .viewNone none c es none a k hz (fun _ h=>by cases h) (fun _ h=>by cases h) hk
 |_=>exact h0
theorem AVR.norm {X:Nat→Prop} {w:World} {ρ:Rho} {x:AV} {v:Value} (h:AVR X w ρ x v):AVR X w ρ x.norm v:=by
 cases h with
 |any=>exact .any v
 |c x v h=>exact .c _ _ (CR0.norm h)
 |agg cs vs hs h=>
  exact .agg _ _ (by rw[normL_len];exact hs) fun i hi=>by
   rw[normL_len]at hi;rw[normL_getD];exact CR0.norm (h i hi)
 |tup l vs hs h=>exact .tup l vs hs h
def nm (G:Model):Model:=fun args h=>G (normA args) h
def ModelN (P:Program) (f:FuncId) (G:Model):Prop:= ∀args h res h' o,normA args=args→G args h=some (res,h',o)→(∀b∈o,b=true)→Meets P f args h res h'
theorem ModelN.ok {P:Program} {f:FuncId} {G:Model} (hg:ModelN P f G):ModelOk P f (nm G):=by
 intro args h res h' o he ho
 have hm:=hg (normA args) h res h' o (normA_normA args) he ho
 refine⟨hm.1,fun {X w0 ρ0} m vs hl hv=>hm.2 m vs (by rw[normA_len];exact hl) fun q hq=> ?_⟩
 rw[normA_len]at hq
 rw[normA_getD]
 exact(hv q hq).norm
mutual
def vwA (get:Get):AV→Option (AV×List Bool)
 |.any=>some (.any,[])
 |.c x=>(froz get x).map fun(y,_,o)=>(.c y,o)
 |.agg cs=>(frozAll get cs).map fun(y,_,o)=>(.agg y,o)
 |.tup vs=>(vwT get vs).map fun(y,o)=>(.tup y,o)
def vwT (get:Get):List AV→Option (List AV×List Bool)
 |[]=>some ([],[])
 |x::r=>match vwA get x,vwT get r with
  |some (y,o),some (ys,o')=>some (y::ys,o++o')
  |_,_=>none
end
section
variable {X : Nat → Prop} {w0 w : World} {h : List Slot} {ρ ρ0 : Rho} (m : Mem X w0 (liveB ρ0) h ρ w) (hun : ∀ id, ρ0 id = .unborn)
include m hun
theorem froz_view {x y:Cell} {s:List (Nat×Slot)} {o:List Bool} {v:Value} (hf:froz (Heap.get h) x=some (y,s,o)) (ho: ∀b∈o,b=true) (hx:CR X w ρ x v):CR X w ρ0 y v:=by
 have hnl: ∀b, ¬liveB ρ0 b:=fun b ⟨id,h⟩=>by rw[hun id]at h;cases h
 have mb2:MonoB w (fun b=>liveB ρ b∨X b) w (fun b=>liveB ρ0 b∨X b):=⟨fun _ _ _=>rfl,fun _ _=>rfl,Nat.le_refl _,fun b hb=> .inl (hb.elim (fun h=>absurd h (hnl b)) .inr)⟩
 unfold froz at hf
 split at hf
 ·rename_i id len es cap
  split at hf
  ·rename_i c hs
   cases hfr:c.free with
   |false=>rw[hfr]at hf;cases hf
   |true=>
    rw[hfr]at hf
    injection hf with hf;injection hf with e1 e2;injection e2 with e2 e3;subst e1 e2 e3
    have hz:len*es=c.size:=by simpa [ix_eq]using ho _ (List.mem_singleton.2 rfl)
    rcases live_sl m hs hx with⟨b,k,ty,n,hb,rfl,⟨cs,ty',hrow,hsz,hcs⟩,hsh,hn,hl',hcap⟩|⟨a,rfl,rfl,hcap⟩
    ·rw[Nat.zero_mul]
     refine .view none c len es cap b 0 k (fun q=>cs.getD q undef) (fun _ h=> ?_) (fun q hq=> ?_) (fun q hq=>((hcs q hq).free (free_cell hfr q)).mono mb2 (IdMono.noIds _)) hz hl' hcap (fun _ h=>by cases h)
     ·rcases h with h|h
      ·exact hnl b h
      ·exact m.notX hb h
     ·have hq':q<cs.size:=by omega
      simp[World.cell?,hrow,Array.getD,hq']
    ·exact .viewNone none c es cap a 0 (by omega) hcap (fun _ h=>by cases h) (fun _=>rfl)
  ·cases hf
 ·cases hf
 ·cases hf
 ·cases hf
 ·rename_i h1 h2 h3 h4
  injection hf with hf;injection hf with e1 e2;subst e1
  refine CR0.lift ((CR0.free hx ?_).mono mb2 (IdMono.refl _))
  cases x<;>first|rfl|skip
  ·exact absurd rfl (h3 _ _ _ _)
  ·exact absurd rfl (h2 _ _ _ _ _)
  ·rename_i f caps
   cases caps with
   |nil=>rfl
   |cons x r=>exact absurd rfl (h4 _ _ _)
theorem frozAll_view: ∀ {l l':List Cell} {s:List (Nat×Slot)} {o:List Bool} (f:Nat→Value),frozAll (Heap.get h) l=some (l',s,o)→(∀b∈o,b=true)→(∀i,i<l.length→CR X w ρ (l.getD i .any) (f i))→
  l'.length=l.length∧ ∀i,i<l.length→CR X w ρ0 (l'.getD i .any) (f i)
 |[],l',s,o,f,hf,_,_=>by
  injection hf with hf;injection hf with h1 h2;subst h1
  exact⟨rfl,fun q hq=>by simp at hq⟩
 |x::r,l',s,o,f,hf,ho,hx=>by
  simp only[frozAll]at hf
  split at hf
  ·rename_i y s1 o1 ys s2 o2 e1 e2
   injection hf with hf;injection hf with h1 h2;injection h2 with h2 h3;subst h1 h2 h3
   obtain⟨g1,g2⟩:=frozAll_view (fun q=>f (q+1)) e2 (fun b hb=>ho b (List.mem_append_right _ hb)) (fun q hq=>by simpa using hx (q+1) (by simpa using hq))
   refine⟨by simp[g1],fun q hq=> ?_⟩
   cases q with
   |zero=>simpa using froz_view m hun e1 (fun b hb=>ho b (List.mem_append_left _ hb)) (by simpa using hx 0 (by simp))
   |succ q=>simpa using g2 q (by simpa using hq)
  ·cases hf
mutual
theorem vwA_view: ∀ {x y:AV} {o:List Bool} {v:Value},vwA (Heap.get h) x=some (y,o)→(∀b∈o,b=true)→AVR X w ρ x v→AVR X w ρ0 y v
 |.any,y,o,v,hf,ho,hx=>by
  simp only[vwA,Option.some.injEq,Prod.mk.injEq]at hf
  obtain⟨rfl,rfl⟩:=hf;exact .any v
 |.c x,y,o,v,hf,ho,hx=>by
  simp only[vwA]at hf
  obtain⟨⟨y',s,o'⟩,h1,h2⟩:=Option.map_eq_some_iff.1 hf
  simp only[Prod.mk.injEq]at h2
  obtain⟨rfl,rfl⟩:=h2
  cases hx with
  |c x v hx=>exact .c _ _ (froz_view m hun h1 ho hx)
 |.agg cs,y,o,v,hf,ho,hx=>by
  simp only[vwA]at hf
  obtain⟨⟨y',s,o'⟩,h1,h2⟩:=Option.map_eq_some_iff.1 hf
  simp only[Prod.mk.injEq]at h2
  obtain⟨rfl,rfl⟩:=h2
  cases hx with
  |agg cs vs hs hx=>
   obtain⟨g1,g2⟩:=frozAll_view m hun (fun i=>vs.getD i undef) h1 ho hx
   exact .agg _ _ (by rw[g1];exact hs) fun i hi=>g2 i (by rw[←g1];exact hi)
 |.tup l,y,o,v,hf,ho,hx=>by
  simp only[vwA]at hf
  obtain⟨⟨y',o'⟩,h1,h2⟩:=Option.map_eq_some_iff.1 hf
  simp only[Prod.mk.injEq]at h2
  obtain⟨rfl,rfl⟩:=h2
  cases hx with
  |tup l vs hs hx=>
   obtain⟨g1,g2⟩:=vwT_view (fun i=>vs.getD i undef) h1 ho hx
   exact .tup _ _ (by rw[g1];exact hs) fun i hi=>g2 i (by rw[←g1];exact hi)
theorem vwT_view: ∀ {l l':List AV} {o:List Bool} (f:Nat→Value),vwT (Heap.get h) l=some (l',o)→(∀b∈o,b=true)→(∀i,i<l.length→AVR X w ρ (l.getD i (.tup [])) (f i))→
  l'.length=l.length∧ ∀i,i<l.length→AVR X w ρ0 (l'.getD i (.tup [])) (f i)
 |[],l',o,f,hf,_,_=>by
  simp only[vwT,Option.some.injEq,Prod.mk.injEq]at hf
  obtain⟨rfl,rfl⟩:=hf
  exact⟨rfl,fun q hq=>by simp at hq⟩
 |x::r,l',o,f,hf,ho,hx=>by
  simp only[vwT]at hf
  split at hf
  ·rename_i y o1 ys o2 e1 e2
   injection hf with hf;injection hf with h1 h2;subst h1 h2
   obtain⟨g1,g2⟩:=vwT_view (fun q=>f (q+1)) e2 (fun b hb=>ho b (List.mem_append_right _ hb)) (fun q hq=>by simpa using hx (q+1) (by simpa using hq))
   refine⟨by simp[g1],fun q hq=> ?_⟩
   cases q with
   |zero=>simpa using vwA_view e1 (fun b hb=>ho b (List.mem_append_left _ hb)) (by simpa using hx 0 (by simp))
   |succ q=>simpa using g2 q (by simpa using hq)
  ·cases hf
end
end
theorem Meets.views {P:Program} {f:FuncId} {args:List AV} {res res':AV} {h':List Slot} {o:List Bool} (hm:Meets P f args [] res h') (hv:vwA (Heap.get h') res=some (res',o)) (ho: ∀b∈o,b=true):
  Meets P f args [] res' []:=by
 refine⟨hm.1,fun {X w0 ρ0} m vs hl hva=> ?_⟩
 refine Calls.mono (hm.2 m vs hl hva) ?_
 rintro e w' ⟨v,ρ',rfl,mb,im,m',hr⟩
 have hun: ∀id,ρ0 id=.unborn:=fun id=>by
  have hs:=m.slot id
  rw[Heap.get_ge (by simp)]at hs
  cases hx:ρ0 id<;>rw[hx]at hs<;>first|rfl|exact hs.elim
 have hr':=vwA_view m' hun hv ho hr
 refine⟨v,ρ0,rfl,⟨mb.keep,mb.shape,mb.size,fun b hb=> .inl hb⟩,IdMono.refl _,⟨fun id=> ?_,(fun i j b hi _=>absurd (hun i) (by rw[hi];simp)),(fun id b hb=>absurd (hun id) (by rw[hb];simp)),m'.os,m'.tape,m'.output,m'.size,m'.keep,m'.foreign⟩,hr'⟩
 rw[Heap.get_ge (by simp),hun id];trivial
def inlM (tt:Tab) (ct:CT) (fn:Func) (p:Path):Model:=fun args h=>
 match evalF tt ct [] 1000 fn args h p with
 |some ⟨res,h',b,[]⟩=>some (res,h',[b])
 |_=>none
theorem inlM_ok {P:Program} {tt:Tab} (hT:TTok P tt) {ct:CT} (hct:CtOk P ct) (hmix:P.follows .mixedOrders=true) {f:FuncId} {fn:Func} (p:Path) (hf:P.funcs[f]? =some fn)
  (hnm:(fn.name== "runtime.NumGoroutine")=false):ModelOk P f (inlM tt ct fn p):=by
 intro args h res h' o he ho
 unfold inlM at he
 split at he
 ·rename_i r hh b e
  injection he with he;injection he with e1 e2;injection e2 with e2 e3;subst e1 e2 e3
  exact evalF_sound hT hct hmix (p:=p) hf hnm e (ho _ (List.mem_singleton.2 rfl)) (fun q hq=>by cases hq) (fun c _=>LcOk.nil)
 ·cases he
end Go.Proofs.YthapjdpkelihiaaGreat.Am
end
section
namespace Go.Proofs.YthapjdpkelihiaaGreat.Am
theorem nlen_one (n m:Nat):nlen 1 n m=m:=rfl
theorem Weak.trans {m:Nat} {s t u:St} (a:Weak m s t) (b:Weak m t u):Weak m s u:=fun X w0 ρ0 ρ ac w h0 r=>by
 obtain⟨ρ',r'⟩:=a h0 r
 exact b h0 r'
theorem Good.pre {P:Program} {m:Nat} {c:Code} {s t:St} {Q:Ex→St→Prop} (g:Good P m c t Q) (h:Weak m s t):Good P m c s Q:=fun X w0 ρ0 ρ a w h0 r=>by
 obtain⟨ρ',r'⟩:=h h0 r
 exact g h0 r'
def nilAt (id es:Nat):List Cell→Nat→List Cell
 |[],_=>[]
 |x::r,0=>(match x with|.nils=> .sl id 0 0 es none|x=>x)::r
 |x::r,q+1=>x::nilAt id es r q
theorem nilAt_len (id es:Nat): ∀(l:List Cell) (q:Nat),(nilAt id es l q).length=l.length
 |[],_=>rfl
 |x::r,0=>by simp[nilAt]
 |x::r,q+1=>by simp[nilAt,nilAt_len id es r q]
theorem nilAt_get (id es:Nat): ∀(l:List Cell) (q i:Nat),(nilAt id es l q).getD i .any=l.getD i .any∨(l.getD i .any=.nils∧(nilAt id es l q).getD i .any=.sl id 0 0 es none)
 |[],_,i=> .inl rfl
 |x::r,0,0=>by
  cases x<;>first|exact .inl rfl|exact .inr ⟨rfl,rfl⟩
 |x::r,0,i+1=> .inl (by simp[nilAt])
 |x::r,q+1,0=> .inl (by simp[nilAt])
 |x::r,q+1,i+1=>by simpa [nilAt]using nilAt_get id es r q i
def nilH (r q es:Nat) (c0:Con) (s:St):St:=
 {s with heap:=(match Heap.get s.heap r with|.live (.cells cs)=>s.heap.set r (.live (.cells (nilAt s.heap.length es cs q)))|_=>s.heap)++[.live c0]}
section
variable {X : Nat → Prop} {w0 w : World} {ρ0 ρ : Rho}
theorem new_mono (w:World) {ρ:Rho} {id:Nat} (hid:ρ id=.unborn):Mono w ρ w (upd ρ id .nil):=by
 refine⟨fun _ _ _=>rfl,fun _ _=>rfl,Nat.le_refl _,fun j hj=> ?_,fun j hj=> ?_,fun j b hj=> ?_,fun j b hj=> ?_⟩
 ·rw[upd_ne _ _ (fun e=>by rw[e,hid]at hj;cases hj)];exact hj
 ·rw[upd_ne _ _ (fun e=>by rw[e,hid]at hj;cases hj)];exact .inl hj
 ·rw[upd_ne _ _ (fun e=>by rw[e,hid]at hj;cases hj)];exact .inl hj
 ·by_cases e:j=id
  ·subst e;rw[upd_same]at hj;cases hj
  ·rw[upd_ne _ _ e]at hj;exact .inl ⟨j,hj⟩
theorem nil_cell {id es:Nat} {v:Value} (h:CR X w ρ .nils v):CR X w (upd ρ id .nil) (.sl id 0 0 es none) v:=by
 cases h
 exact .slNone id 0 es none none (by rw[upd_same];simp) (fun _ h=>by cases h)
theorem Rel.nil {s:St} {a:Act} (r:Rel X w0 ρ0 s ρ a w) {c0:Con} (hc:c0.size=0) {T:List AV} {H:List Slot} (hTl:T.length=s.tmps.length) (hHl:H.length=s.heap.length)
  (hT: ∀t,t<s.tmps.length→T.getD t (.tup [])=s.tmps.getD t (.tup [])∨ ∃es,s.tmps.getD t (.tup [])=.c .nils∧T.getD t (.tup [])=.c (.sl s.heap.length 0 0 es none))
  (hH: ∀id,Heap.get H id=Heap.get s.heap id∨ ∃cs cs',Heap.get s.heap id=.live (.cells cs)∧Heap.get H id=.live (.cells cs')∧cs'.length=cs.length∧
   ∀i,cs'.getD i .any=cs.getD i .any∨ ∃es,cs.getD i .any=.nils∧cs'.getD i .any=.sl s.heap.length 0 0 es none):
  Rel X w0 ρ0 ⟨T,H++[.live c0]⟩ (upd ρ s.heap.length .nil) a w:=by
 have hun:ρ s.heap.length=.unborn:=by
  have hs:=r.mem.slot s.heap.length
  rw[Heap.get_ge (Nat.le_refl _)]at hs
  cases hx:ρ s.heap.length<;>rw[hx]at hs<;>first|rfl|exact hs.elim
 have mo:=new_mono w hun
 refine⟨by rw[hTl];exact r.size,fun t ht=> ?_,⟨fun id=> ?_,fun i j b hi hj=> ?_,fun id b hb=> ?_,r.mem.os,r.mem.tape,r.mem.output,r.mem.size,r.mem.keep,r.mem.foreign⟩,r.defers,
  r.mono.trans mo.toB,r.ids.trans mo.ids⟩
 ·dsimp only at ht⊢
  rw[hTl]at ht
  rcases hT t ht with e|⟨es,e1,e2⟩
  ·rw[e];exact(r.tmps t ht).mono mo
  ·have h:=r.tmps t ht
   rw[e1]at h
   rw[e2]
   cases h with
   |c x v h=>exact .c _ _ (nil_cell h)
 ·by_cases e:id=s.heap.length
  ·subst e
   have:Heap.get (H++[.live c0]) s.heap.length=.live c0:=by
    unfold Heap.get
    rw[List.getD_eq_getElem?_getD,List.getElem?_append_right (by omega),hHl];simp
   rw[this,upd_same];exact hc
  ·have hg:Heap.get (H++[.live c0]) id=Heap.get H id:=by
    unfold Heap.get
    rw[List.getD_eq_getElem?_getD,List.getD_eq_getElem?_getD,List.getElem?_append]
    split
    ·rfl
    ·rw[List.getElem?_eq_none (l:=H) (by omega),List.getElem?_eq_none (by simp;omega)]
   rw[hg,upd_ne _ _ e]
   have hs:=r.mem.slot id
   rcases hH id with e1|⟨cs,cs',e1,e2,e3,e4⟩
   ·rw[e1];exact hs.mono mo fun _ _=>rfl
   ·rw[e1]at hs
    rw[e2]
    cases hx:ρ id with
    |unborn=>rw[hx]at hs;exact hs.elim
    |dead=>rw[hx]at hs;exact hs.elim
    |nil=>rw[hx]at hs;simp only[SlotR,Con.size]at hs⊢;omega
    |row b=>
     rw[hx]at hs
     obtain⟨vs,ty,h1,h2,h3⟩:=hs
     refine⟨vs,ty,h1,by simp only[Con.size]at h2⊢;omega,fun q hq=> ?_⟩
     have h:=h3 q (by simp only[Con.size]at hq⊢;omega)
     simp only[Con.cell]at h⊢
     rcases e4 q with e5|⟨es,e5,e6⟩
     ·rw[e5];exact h.mono mo
     ·rw[e5]at h;rw[e6];exact nil_cell h
 ·by_cases e:i=s.heap.length
  ·subst e;rw[upd_same]at hi;cases hi
  ·by_cases e':j=s.heap.length
   ·subst e';rw[upd_same]at hj;cases hj
   ·rw[upd_ne _ _ e]at hi;rw[upd_ne _ _ e']at hj
    exact r.mem.inj i j b hi hj
 ·by_cases e:id=s.heap.length
  ·subst e;rw[upd_same]at hb;cases hb
  ·rw[upd_ne _ _ e]at hb;exact r.mem.own id b hb
theorem Weak.nilH (m r q es:Nat) (c0:Con) (hc:c0.size=0) (s:St):Weak m s (Am.nilH r q es c0 s):=fun X w0 ρ0 ρ a w h0 rl=>by
 refine⟨_,Rel.nil rl hc rfl ?_ (fun t ht=> .inl rfl) (fun id=> ?_)⟩
 ·split<;>simp
 ·split
  ·rename_i cs hg
   rw[Heap.get_set]
   by_cases e:id=r∧r<s.heap.length
   ·rw[if_pos e]
    obtain⟨rfl,hlt⟩:=e
    refine .inr ⟨cs,_,hg,rfl,nilAt_len _ _ _ _,fun i=> ?_⟩
    rcases nilAt_get s.heap.length es cs q i with h|⟨h1,h2⟩
    ·exact .inl h
    ·exact .inr ⟨es,h1,h2⟩
   ·rw[if_neg e];exact .inl rfl
  ·exact .inl rfl
end
end Go.Proofs.YthapjdpkelihiaaGreat.Am
end
section
namespace Go.Proofs.YthapjdpkelihiaaGreat.Am
def T16:List Entry:=[⟨183,[],FFrows⟩]++T15
theorem e16:EntriesOk Tryz.prog T16:=by
 refine EntriesOk.append ?_ e15
 intro e he
 simp only[List.mem_cons,List.not_mem_nil,or_false]at he
 subst he;exact m160
theorem t16:CtOk Tryz.prog (ctOf T16):=ctOf_ok e16
def ldK (xs:List Int) (i:Nat):Int:=idxL (fun x=>x !=0) [xs.getD (i*12) 0,xs.getD (i*12+1) 0,xs.getD (i*12+2) 0,xs.getD (i*12+3) 0]
def cK (xs:List Int) (i:Nat) (k:List Int):Int:=[k.getD 0 0,k.getD 1 0,k.getD 2 0,k.getD 3 0,k.getD 4 0,k.getD 5 0,k.getD 6 0,k.getD 7 0,k.getD 8 0,k.getD 9 0,k.getD 10 0,k.getD 11 0].getD (ldK xs i).toNat 0
def lessE (xs:List Int) (i:Nat) (k:List Int) (j:Nat):Int:=(k.getD j 0+xs.getD (i*12+j) 0*cK xs i k%31*30%31)%31
def lessB (xs:List Int) (i:Nat) (k:List Int) (j:Nat):Int:=(k.getD j 0-xs.getD (i*12+j) 0*cK xs i k%31)%31
def lessS (xs:List Int) (i:Nat) (k:List Int):List Int:=[lessE xs i k 0,lessE xs i k 1,lessE xs i k 2,lessE xs i k 3,lessB xs i k 4,lessB xs i k 5,lessB xs i k 6,lessB xs i k 7,lessB xs i k 8,lessB xs i k 9,lessB xs i k 10,lessB xs i k 11]
def lessAt (xs:List Int):Nat→Nat→List Int→List Int
 |0,_,k=>k
 |m+1,i,k=>lessAt xs m (i+1) (lessS xs i k)
def lessL (xs:List Int) (n:Nat) (k:List Int):List Int:=lessAt xs n 0 k
noncomputable abbrev f181:=Tryz.f213
noncomputable def I181 (n m:Nat) (xs ps:List Int) (i:Int) (k:List Int):St:=
 stOf f181.ntmps [(3,.c (.ptr 3 0 0 0)),(4,.c (.ptr 4 0 0 0)),(12,.c (.sl 1 0 n 12 none)),(13,.c (.int .i64 n)),(14,.c (.int .i64 i))]
  [.live (.cells [.sl 1 0 n 12 none,.sl 2 0 m 1 none]),.live (.ints .i64 xs),.live (.ints .i64 ps),.live (.ints .i64 [k.getD 0 0,k.getD 1 0,k.getD 2 0,k.getD 3 0,k.getD 4 0,k.getD 5 0,k.getD 6 0,k.getD 7 0,k.getD 8 0,k.getD 9 0,k.getD 10 0,k.getD 11 0]),.live (.ints .i64 [0,0,0,0,0,0,0,0,0,0,0,0])]
noncomputable def X181 (n m:Nat) (xs ps:List Int) (k:List Int):St:=
 stOf f181.ntmps [(3,.c (.ptr 3 0 0 0)),(4,.c (.ptr 4 0 0 0))]
  [.live (.cells [.sl 1 0 n 12 none,.sl 2 0 m 1 none]),.live (.ints .i64 xs),.live (.ints .i64 ps),.live (.ints .i64 [k.getD 0 0,k.getD 1 0,k.getD 2 0,k.getD 3 0,k.getD 4 0,k.getD 5 0,k.getD 6 0,k.getD 7 0,k.getD 8 0,k.getD 9 0,k.getD 10 0,k.getD 11 0]),.live (.ints .i64 [0,0,0,0,0,0,0,0,0,0,0,0])]
theorem r181_1 (n m:Nat) (xs ps:List Int) (i:Int) (k:List Int):roundR 3 (liveH f181 0) (liveB' f181 0) (evalC tt (ctOf T16) [] 3 100 (bodyAt 0 (codeOf f181)) (I181 n m xs ps i k) [(0,true)])=
  some (.normal,(decide (i< ↑n)&&(decide (0≤i)&&(decide (i< ↑n)&&(decide (i.toNat*12+12≤xs.length)&&(decide (0≤ldK xs i.toNat)&&(decide (ldK xs i.toNat<4)&&(decide ((ldK xs i.toNat).toNat<[k.getD 0 0,k.getD 1 0,k.getD 2 0,k.getD 3 0,k.getD 4 0,k.getD 5 0,k.getD 6 0,k.getD 7 0,k.getD 8 0,k.getD 9 0,k.getD 10 0,k.getD 11 0].length)&&(fok (xs.getD (i.toNat*12) 0)&&(fok (cK xs i.toNat k)&&(fok (xs.getD (i.toNat*12+1) 0)&&(fok (cK xs i.toNat k)&&(fok (xs.getD (i.toNat*12+2) 0)&&(fok (cK xs i.toNat k)&&(fok (xs.getD (i.toNat*12+3) 0)&&(fok (cK xs i.toNat k)&&(fok (k.getD 0 0)&&(fok (xs.getD (i.toNat*12) 0*cK xs i.toNat k%31)&&(fok (k.getD 1 0)&&(fok (xs.getD (i.toNat*12+1) 0*cK xs i.toNat k%31)&&(fok (k.getD 2 0)&&(fok (xs.getD (i.toNat*12+2) 0*cK xs i.toNat k%31)&&(fok (k.getD 3 0)&&(fok (xs.getD (i.toNat*12+3) 0*cK xs i.toNat k%31)&&(fok (xs.getD (i.toNat*12+4) 0)&&(fok (cK xs i.toNat k)&&(fok (k.getD 4 0)&&(fok (xs.getD (i.toNat*12+4) 0*cK xs i.toNat k%31)&&(fok (xs.getD (i.toNat*12+5) 0)&&(fok (cK xs i.toNat k)&&(fok (k.getD 5 0)&&(fok (xs.getD (i.toNat*12+5) 0*cK xs i.toNat k%31)&&(fok (xs.getD (i.toNat*12+6) 0)&&(fok (cK xs i.toNat k)&&(fok (k.getD 6 0)&&(fok (xs.getD (i.toNat*12+6) 0*cK xs i.toNat k%31)&&(fok (xs.getD (i.toNat*12+7) 0)&&(fok (cK xs i.toNat k)&&(fok (k.getD 7 0)&&(fok (xs.getD (i.toNat*12+7) 0*cK xs i.toNat k%31)&&(fok (xs.getD (i.toNat*12+8) 0)&&(fok (cK xs i.toNat k)&&(fok (k.getD 8 0)&&(fok (xs.getD (i.toNat*12+8) 0*cK xs i.toNat k%31)&&(fok (xs.getD (i.toNat*12+9) 0)&&(fok (cK xs i.toNat k)&&(fok (k.getD 9 0)&&(fok (xs.getD (i.toNat*12+9) 0*cK xs i.toNat k%31)&&(fok (xs.getD (i.toNat*12+10) 0)&&(fok (cK xs i.toNat k)&&(fok (k.getD 10 0)&&(fok (xs.getD (i.toNat*12+10) 0*cK xs i.toNat k%31)&&(fok (xs.getD (i.toNat*12+11) 0)&&(fok (cK xs i.toNat k)&&(fok (k.getD 11 0)&&((fok (xs.getD (i.toNat*12+11) 0*cK xs i.toNat k%31))&&true))))))))))))))))))))))))))))))))))))))))))))))))))))))),[],I181 n m xs ps (IntKind.i64.wrap (i+1)) (lessS xs i.toNat k)):=by kernel_rfl
theorem r181_2 (n m:Nat) (xs ps:List Int) (i:Int) (k:List Int):roundR 3 (liveH f181 0) (liveB' f181 0) (evalC tt (ctOf T16) [] 3 100 (bodyAt 0 (codeOf f181)) (I181 n m xs ps i k) [(0,false)])=
  some (.exit 0,((!decide (i< ↑n))&&true),[],X181 n m xs ps k):=by kernel_rfl
def ldsOk (xs:List Int) (n:Nat):Bool:=allK (fun i=>bet (ldK xs i) 0 3) n
theorem l181 (n m:Nat) (xs ps:List Int) (k:List Int) (hn:n≤274877906944) (hx:xs.length=n*12) (hf:allFok xs=true) (hk:allFok k=true) (hl:ldsOk xs n=true):
  Good Tryz.prog 3 (.block 0 (.loop (bodyAt 0 (codeOf f181)))) (I181 n m xs ps 0 k) fun e t=>e=.normal∧t=X181 n m xs ps (lessL xs n k):=by
 refine Good.roundsN hT t16 hmix (m:=3) (id:=0) (body:=bodyAt 0 (codeOf f181)) (α:=Nat×List Int)
  (fun x=>x.1≤n∧allFok x.2=true∧lessAt xs (n-x.1) x.1 x.2=lessL xs n k) (fun x=>I181 n m xs ps x.1 x.2) (fun x=>n-x.1) (liveH f181 0) (liveB' f181 0)
  (fun _=>X181 n m xs ps (lessL xs n k)) (fun _=>[]) (fun _ _=>LcOk.nil) (fun x hx=> ?_) (0,k) ⟨by simp,hk,rfl⟩
 obtain⟨i,k⟩:=x
 obtain⟨h1,h2,h3⟩:=hx
 dsimp only at h1 h2 h3⊢
 by_cases hi:i<n
 ·have hkk:n-i=(n-(i+1))+1:=by omega
  rw[hkk]at h3
  simp only[lessAt]at h3
  have hld:bet (ldK xs i) 0 3=true:=allK_spec hl i hi
  have hld':=hld
  simp only[bet,Bool.and_eq_true,decide_eq_true_eq]at hld'
  have hc:fok (cK xs i k)=true:=allFok_get (v:=[k.getD 0 0,k.getD 1 0,k.getD 2 0,k.getD 3 0,k.getD 4 0,k.getD 5 0,k.getD 6 0,k.getD 7 0,k.getD 8 0,k.getD 9 0,k.getD 10 0,k.getD 11 0]) (by simp[allFok,allFok_get h2,-List.getD_eq_getElem?_getD]) _
  refine⟨_,_,_,_,_,_,r181_1 n m xs ps i k, ?_,by simp,.inl ⟨rfl,(i+1,lessS xs i k),⟨by omega, ?_,h3⟩,by dsimp only;omega, ?_,rfl⟩⟩
  ·rw[Int.toNat_natCast]
   simp only[allFok_get hf,allFok_get h2,fok_mod,hc,Bool.true_and,Bool.and_true,Bool.and_eq_true,decide_eq_true_eq,List.length_cons,List.length_nil]
   omega
  ·simp only[allFok,lessS,lessE,lessB,List.all_cons,List.all_nil,fok_mod,Bool.and_self]
  ·rw[wrap_small (by omega) (by omega),Int.toNat_natCast];rfl
 ·have hz:n-i=0:=by omega
  rw[hz]at h3
  simp only[lessAt]at h3
  exact⟨_,_,_,_,_,_,r181_2 n m xs ps i k,by simp;omega,by simp,.inr ⟨rfl,by rw[h3]⟩⟩
def cellsK (k:List Int):List Cell:=[.int .i64 (k.getD 0 0),.int .i64 (k.getD 1 0),.int .i64 (k.getD 2 0),.int .i64 (k.getD 3 0),.int .i64 (k.getD 4 0),.int .i64 (k.getD 5 0),.int .i64 (k.getD 6 0),.int .i64 (k.getD 7 0),.int .i64 (k.getD 8 0),.int .i64 (k.getD 9 0),.int .i64 (k.getD 10 0),.int .i64 (k.getD 11 0)]
def FFless:Model:=fun args h=>
 match args,h with
 |[.c (.ptr 0 0 0 0),.agg [.int .i64 k0,.int .i64 k1,.int .i64 k2,.int .i64 k3,.int .i64 b0,.int .i64 b1,.int .i64 b2,.int .i64 b3,.int .i64 b4,.int .i64 b5,.int .i64 b6,.int .i64 b7]],[.live (.cells [.sl 1 0 n 12 none,.sl 2 0 m 1 none]),.live (.ints .i64 xs),.live (.ints .i64 ps)]=>
  some (.agg (cellsK (lessL xs n [k0,k1,k2,k3,b0,b1,b2,b3,b4,b5,b6,b7])),[.live (.cells [.sl 1 0 n 12 none,.sl 2 0 m 1 none]),.live (.ints .i64 xs),.live (.ints .i64 ps)],[decide (n≤274877906944),decide (xs.length=n*12),allFok xs,allFok [k0,k1,k2,k3,b0,b1,b2,b3,b4,b5,b6,b7],ldsOk xs n])
 |_,_=>none
theorem m181:ModelOk Tryz.prog 213 FFless:=by
 intro args h res h' o he ho
 unfold FFless at he
 split at he
 case h_2=>cases he
 rename_i k0 k1 k2 k3 b0 b1 b2 b3 b4 b5 b6 b7 n m xs ps
 simp only[Option.some.injEq,Prod.mk.injEq]at he
 obtain⟨rfl,rfl,rfl⟩:=he
 simp only[List.mem_cons,List.not_mem_nil,or_false,forall_eq_or_imp,forall_eq,decide_eq_true_eq]at ho
 obtain⟨o1,o2,o3,o4,o5⟩:=ho
 exact meets_of t16 (fn:=f181) (lc:=[(0,⟨liveH f181 0,I181 n m xs ps 0 [k0,k1,k2,k3,b0,b1,b2,b3,b4,b5,b6,b7],.normal,X181 n m xs ps (lessL xs n [k0,k1,k2,k3,b0,b1,b2,b3,b4,b5,b6,b7])⟩)]) (fuel:=100) (p:=[])
  (o:=⟨_,_,true,[I181 n m xs ps 0 [k0,k1,k2,k3,b0,b1,b2,b3,b4,b5,b6,b7]=I181 n m xs ps 0 [k0,k1,k2,k3,b0,b1,b2,b3,b4,b5,b6,b7]]⟩)
  (by kernel_rfl) (by kernel_rfl) (by kernel_rfl) rfl (by simp) (fun cc hc=>LcOk.cons (c:=cc) (by cases hc;kernel_rfl) (by cases hc;exact l181 n m xs ps _ o1 o2 o3 o4 o5) LcOk.nil)
end Go.Proofs.YthapjdpkelihiaaGreat.Am
end
section
namespace Go.Proofs.YthapjdpkelihiaaGreat.Am
def T17:List Entry:=[⟨213,[0],FFless⟩]++T16
theorem e17:EntriesOk Tryz.prog T17:=by
 refine EntriesOk.append ?_ e16
 intro e he
 simp only[List.mem_cons,List.not_mem_nil,or_false]at he
 subst he;exact m181
theorem t17:CtOk Tryz.prog (ctOf T17):=ctOf_ok e17
noncomputable abbrev f161:=Tryz.f184
def iniK (xs:List Int) (i:Nat):List Int:=[xs.getD (i*4+0) 0,xs.getD (i*4+1) 0,xs.getD (i*4+2) 0,xs.getD (i*4+3) 0,if i=0 then 1 else 0,if i=1 then 1 else 0,if i=2 then 1 else 0,if i=3 then 1 else 0,if i=4 then 1 else 0,if i=5 then 1 else 0,if i=6 then 1 else 0,if i=7 then 1 else 0]
def KK (xs ys:List Int) (r i:Nat):List Int:=lessL ys r (iniK xs i)
def ld4 (k:List Int):Int:=idxL (fun x=>x !=0) [k.getD 0 0,k.getD 1 0,k.getD 2 0,k.getD 3 0]
def at4 (k:List Int):Int:=[k.getD 0 0,k.getD 1 0,k.getD 2 0,k.getD 3 0,k.getD 4 0,k.getD 5 0,k.getD 6 0,k.getD 7 0,k.getD 8 0,k.getD 9 0,k.getD 10 0,k.getD 11 0].getD (ld4 k).toNat 0
def cI (k:List Int):Int:=inv (at4 k)
def oneK (k:List Int):List Int:=[k.getD 0 0*cI k%31,k.getD 1 0*cI k%31,k.getD 2 0*cI k%31,k.getD 3 0*cI k%31,k.getD 4 0*cI k%31,k.getD 5 0*cI k%31,k.getD 6 0*cI k%31,k.getD 7 0*cI k%31,k.getD 8 0*cI k%31,k.getD 9 0*cI k%31,k.getD 10 0*cI k%31,k.getD 11 0*cI k%31]
def spanAt (xs:List Int):Nat→Nat→List Int×List Int→List Int×List Int
 |0,_,s=>s
 |f+1,i,s=>spanAt xs f (i+1) (bif decide (ld4 (KK xs s.1 s.2.length i)<0)then s else(s.1++oneK (KK xs s.1 s.2.length i),s.2++[(i:Int)]))
def spanL (xs:List Int) (n:Nat):List Int×List Int:=spanAt xs n 0 ([],[])
noncomputable def I161 (n:Nat) (xs:List Int) (r m:Nat) (ys ps:List Int) (i:Int):St:=
 stOf f161.ntmps [(3,.c (.ptr 0 0 0 0)),(12,.c (.view none (.ints .i64 xs) n 4 none)),(13,.c (.int .i64 n)),(14,.c (.int .i64 i))]
  [.live (.cells [.sl 1 0 r 12 none,.sl 2 0 m 1 none]),.live (.ints .i64 ys),.live (.ints .i64 ps)]
noncomputable def X161 (r m:Nat) (ys ps:List Int):St:=
 stOf f161.ntmps [(3,.c (.ptr 0 0 0 0))] [.live (.cells [.sl 1 0 r 12 none,.sl 2 0 m 1 none]),.live (.ints .i64 ys),.live (.ints .i64 ps)]
section
variable (n : Nat) (xs : List Int) (r m : Nat) (ys ps : List Int)
theorem r161_1 (i:Nat) (hi:i<8):roundR 0 (liveH f161 0) (liveB' f161 0) (evalC tt (ctOf T17) [] 0 100 (bodyAt 0 (codeOf f161)) (I161 n xs r m ys ps i) [(0,true),(0,true)])=
  some (.normal,(decide ((i:Int)<n)&&(decide ((i:Int)<n)&&(decide (i*4+4≤xs.length)&&(decide (r≤274877906944)&&(decide (ys.length=r*12)&&(allFok ys&&(allFok (iniK xs i)&&(ldsOk ys r&&(decide (ld4 (KK xs ys r i)<0)&&true))))))))),[],I161 n xs r m ys ps (i+1:Nat)):=
 match i,hi with
 |0,_=>by kernel_rfl
 |1,_=>by kernel_rfl
 |2,_=>by kernel_rfl
 |3,_=>by kernel_rfl
 |4,_=>by kernel_rfl
 |5,_=>by kernel_rfl
 |6,_=>by kernel_rfl
 |7,_=>by kernel_rfl
theorem r161_2 (i:Nat) (hi:i<8):roundR 0 (liveH f161 0) (liveB' f161 0) (evalC tt (ctOf T17) [] 0 100 (bodyAt 0 (codeOf f161)) (I161 n xs r m ys ps i) [(0,true),(0,false)])=
  some (.normal,(decide ((i:Int)<n)&&(decide ((i:Int)<n)&&(decide (i*4+4≤xs.length)&&(decide (r≤274877906944)&&(decide (ys.length=r*12)&&(allFok ys&&(allFok (iniK xs i)&&(ldsOk ys r&&(!decide (ld4 (KK xs ys r i)<0)&&(decide (0≤ld4 (KK xs ys r i))&&(decide (ld4 (KK xs ys r i)<4)&&(decide ((ld4 (KK xs ys r i)).toNat<12)&&(fok (at4 (KK xs ys r i))&&(fok ((KK xs ys r i).getD 0 0)&&(fok (cI (KK xs ys r i))&&(fok ((KK xs ys r i).getD 1 0)&&(fok (cI (KK xs ys r i))&&(fok ((KK xs ys r i).getD 2 0)&&(fok (cI (KK xs ys r i))&&(fok ((KK xs ys r i).getD 3 0)&&(fok (cI (KK xs ys r i))&&(fok ((KK xs ys r i).getD 4 0)&&(fok (cI (KK xs ys r i))&&(fok ((KK xs ys r i).getD 5 0)&&(fok (cI (KK xs ys r i))&&(fok ((KK xs ys r i).getD 6 0)&&(fok (cI (KK xs ys r i))&&(fok ((KK xs ys r i).getD 7 0)&&(fok (cI (KK xs ys r i))&&(fok ((KK xs ys r i).getD 8 0)&&(fok (cI (KK xs ys r i))&&(fok ((KK xs ys r i).getD 9 0)&&(fok (cI (KK xs ys r i))&&(fok ((KK xs ys r i).getD 10 0)&&(fok (cI (KK xs ys r i))&&(fok ((KK xs ys r i).getD 11 0)&&(fok (cI (KK xs ys r i))&&(decide (r*12=ys.length)&&(decide (r+1≤274877906944)&&(decide (m=ps.length)&&(decide (m+1≤274877906944)&&true))))))))))))))))))))))))))))))))))))))))),[],I161 n xs (r+1) (m+1) (ys++oneK (KK xs ys r i)) (ps++[(i:Int)]) (i+1:Nat)):=
 match i,hi with
 |0,_=>by kernel_rfl
 |1,_=>by kernel_rfl
 |2,_=>by kernel_rfl
 |3,_=>by kernel_rfl
 |4,_=>by kernel_rfl
 |5,_=>by kernel_rfl
 |6,_=>by kernel_rfl
 |7,_=>by kernel_rfl
theorem r161_3 (i:Int):roundR 0 (liveH f161 0) (liveB' f161 0) (evalC tt (ctOf T17) [] 0 100 (bodyAt 0 (codeOf f161)) (I161 n xs r m ys ps i) [(0,false)])=
  some (.exit 0,(!decide (i<n)&&true),[],X161 r m ys ps):=by kernel_rfl
end
theorem idx4 (a b c d:Int):idxL (fun x=>x !=0) [a,b,c,d]=if a≠0 then 0 else if b≠0 then 1 else if c≠0 then 2 else if d≠0 then 3 else -1:=by
 have e: ∀x:Int,x=0∨(x≠0∧(x !=0)=true):=fun x=>by
  by_cases h:x=0
  ·exact .inl h
  ·exact .inr ⟨h,bne_iff_ne.2 h⟩
 unfold idxL idxO
 rcases e a with ha|⟨ha,ha'⟩
 ·subst ha
  rcases e b with hb|⟨hb,hb'⟩
  ·subst hb
   rcases e c with hc|⟨hc,hc'⟩
   ·subst hc
    rcases e d with hd|⟨hd,hd'⟩
    ·subst hd;rfl
    ·simp[idxAt,hd,hd',-bne_iff_ne]
   ·simp[idxAt,hc,hc',-bne_iff_ne]
  ·simp[idxAt,hb,hb',-bne_iff_ne]
 ·simp[idxAt,ha,ha',-bne_iff_ne]
theorem idx4_ok {a b c d:Int} (h:a≠0∨b≠0∨c≠0∨d≠0):bet (idxL (fun x=>x !=0) [a,b,c,d]) 0 3=true:=by
 rw[idx4]
 by_cases ha:a=0<;>by_cases hb:b=0<;>by_cases hc:c=0<;>by_cases hd:d=0<;>simp[ha,hb,hc,hd,bet]at h⊢
theorem ld4_cases {k:List Int} (h:0≤ld4 k):(ld4 k=0∧k.getD 0 0≠0)∨(ld4 k=1∧k.getD 1 0≠0)∨(ld4 k=2∧k.getD 2 0≠0)∨(ld4 k=3∧k.getD 3 0≠0):=by
 unfold ld4 at h⊢
 rw[idx4]at h⊢
 generalize k.getD 0 0=a at*
 generalize k.getD 1 0=b at*
 generalize k.getD 2 0=c at*
 generalize k.getD 3 0=d at*
 by_cases ha:a=0<;>by_cases hb:b=0<;>by_cases hc:c=0<;>by_cases hd:d=0<;>simp[ha,hb,hc,hd]at h⊢
theorem lessAt_fok (xs:List Int): ∀(m i:Nat) (k:List Int),allFok k=true→allFok (lessAt xs m i k)=true
 |0,_,_,h=>h
 |m+1,i,k,h=>lessAt_fok xs m (i+1) _ (by simp only[allFok,lessS,lessE,lessB,List.all_cons,List.all_nil,fok_mod,Bool.and_self])
theorem iniK_fok {xs:List Int} (h:allFok xs=true) (i:Nat):allFok (iniK xs i)=true:=by
 have e: ∀j,fok (if i=j then 1 else 0)=true:=fun j=>by split<;>rfl
 simp only[allFok,iniK,List.all_cons,List.all_nil,allFok_get h,e,Bool.and_self]
theorem KK_fok {xs:List Int} (h:allFok xs=true) (ys:List Int) (r i:Nat):allFok (KK xs ys r i)=true:=lessAt_fok ys r 0 _ (iniK_fok h i)
theorem inv_fok (n:Int):fok (inv n)=true:=by
 unfold inv
 exact allFok_get (v:=[0,1,16,21,8,25,26,9,4,7,28,17,13,12,20,29,2,11,19,18,14,3,24,27,22,5,6,23,10,15,30]) rfl _
theorem inv_mul {n:Int} (h:fok n=true) (h0:n≠0):n*inv n%31=1:=by
 have key:=of31 (q:=fun n=>(decide (n≠0)→n*inv n%31=1)) (fun k hk=>by
  have all:allK (fun k=> !decide ((k:Int)≠0)||decide ((k:Int)*inv k%31=1)) 31=true:=by kernel_rfl
  have:=allK_spec all k hk
  simp only[Bool.or_eq_true,Bool.not_eq_true',decide_eq_false_iff_not,decide_eq_true_eq]at this
  intro h
  rcases this with h'|h'
  ·simp at h;omega
  ·exact h') h
 exact key (by simpa using h0)
theorem at4_fok {k:List Int} (h:allFok k=true):fok (at4 k)=true:=by
 unfold at4
 exact allFok_get (v:=[k.getD 0 0,k.getD 1 0,k.getD 2 0,k.getD 3 0,k.getD 4 0,k.getD 5 0,k.getD 6 0,k.getD 7 0,k.getD 8 0,k.getD 9 0,k.getD 10 0,k.getD 11 0])
  (by simp only[allFok,List.all_cons,List.all_nil,allFok_get h,Bool.and_self]) _
theorem oneK_fok (k:List Int):allFok (oneK k)=true:=by simp only[allFok,oneK,List.all_cons,List.all_nil,fok_mod,Bool.and_self]
theorem oneK_len (k:List Int):(oneK k).length=12:=rfl
theorem oneK_lead {k:List Int} (hk:allFok k=true) (h:0≤ld4 k):bet (idxL (fun x=>x !=0) [(oneK k).getD 0 0,(oneK k).getD 1 0,(oneK k).getD 2 0,(oneK k).getD 3 0]) 0 3=true:=by
 refine idx4_ok ?_
 have e: ∀j,j<12→(oneK k).getD j 0=k.getD j 0*cI k%31:=fun j hj=>by
  match j,hj with
  |0,_|1,_|2,_|3,_|4,_|5,_|6,_|7,_|8,_|9,_|10,_|11,_=>rfl
 rw[e 0 (by omega),e 1 (by omega),e 2 (by omega),e 3 (by omega)]
 rcases ld4_cases h with⟨h1,h2⟩|⟨h1,h2⟩|⟨h1,h2⟩|⟨h1,h2⟩
 ·have hc:cI k=inv (k.getD 0 0):=by unfold cI at4;rw[h1];rfl
  exact .inl (by rw[hc,inv_mul (allFok_get hk _) h2];decide)
 ·have hc:cI k=inv (k.getD 1 0):=by unfold cI at4;rw[h1];rfl
  exact .inr (.inl (by rw[hc,inv_mul (allFok_get hk _) h2];decide))
 ·have hc:cI k=inv (k.getD 2 0):=by unfold cI at4;rw[h1];rfl
  exact .inr (.inr (.inl (by rw[hc,inv_mul (allFok_get hk _) h2];decide)))
 ·have hc:cI k=inv (k.getD 3 0):=by unfold cI at4;rw[h1];rfl
  exact .inr (.inr (.inr (by rw[hc,inv_mul (allFok_get hk _) h2];decide)))
theorem getD_app (xs ys:List Int) (i:Nat):(xs++ys).getD i 0=if i<xs.length then xs.getD i 0 else ys.getD (i-xs.length) 0:=by
 rw[List.getD_eq_getElem?_getD,List.getElem?_append]
 split<;>rw[List.getD_eq_getElem?_getD]
theorem allK_of {f:Nat→Bool}: ∀ {n:Nat},(∀k,k<n→f k=true)→allK f n=true
 |0,_=>rfl
 |n+1,h=>by simp only[allK,Bool.and_eq_true];exact⟨h n (by omega),allK_of fun k hk=>h k (by omega)⟩
theorem allFok_app {xs ys:List Int} (h:allFok xs=true) (h':allFok ys=true):allFok (xs++ys)=true:=by
 simp only[allFok,List.all_append,Bool.and_eq_true]at h h'⊢;exact⟨h,h'⟩
theorem ldsOk_app {ys:List Int} {r:Nat} (hl:ys.length=r*12) (h:ldsOk ys r=true) {k:List Int} (hk:allFok k=true) (h0:0≤ld4 k):ldsOk (ys++oneK k) (r+1)=true:=by
 refine allK_of fun i hi=> ?_
 by_cases e:i=r
 ·subst e
  have:=oneK_lead hk h0
  unfold ldK
  rw[getD_app,getD_app,getD_app,getD_app,if_neg (by omega),if_neg (by omega),if_neg (by omega),if_neg (by omega)]
  rw[hl,Nat.sub_self,Nat.add_sub_cancel_left,Nat.add_sub_cancel_left,Nat.add_sub_cancel_left]
  exact this
 ·have:=allK_spec h i (by omega)
  unfold ldK at this⊢
  rw[getD_app,getD_app,getD_app,getD_app,if_pos (by omega),if_pos (by omega),if_pos (by omega),if_pos (by omega)]
  exact this
theorem l161 (n:Nat) (xs:List Int) (hn:n≤8) (hx:xs.length=n*4) (hf:allFok xs=true):
  Good Tryz.prog 0 (.block 0 (.loop (bodyAt 0 (codeOf f161)))) (I161 n xs 0 0 [] [] 0) fun e t=>e=.normal∧t=X161 (spanL xs n).2.length (spanL xs n).2.length (spanL xs n).1 (spanL xs n).2:=by
 refine Good.roundsN hT t17 hmix (m:=0) (id:=0) (body:=bodyAt 0 (codeOf f161)) (α:=Nat×List Int×List Int)
  (fun x=>x.1≤n∧x.2.2.length≤x.1∧x.2.1.length=x.2.2.length*12∧allFok x.2.1=true∧ldsOk x.2.1 x.2.2.length=true∧spanAt xs (n-x.1) x.1 x.2=spanL xs n)
  (fun x=>I161 n xs x.2.2.length x.2.2.length x.2.1 x.2.2 x.1) (fun x=>n-x.1) (liveH f161 0) (liveB' f161 0)
  (fun _=>X161 (spanL xs n).2.length (spanL xs n).2.length (spanL xs n).1 (spanL xs n).2) (fun _=>[]) (fun _ _=>LcOk.nil) (fun x hx=> ?_) (0,[],[]) ⟨by simp,by simp,rfl,rfl,rfl,rfl⟩
 obtain⟨i,ys,ps⟩:=x
 obtain⟨h1,h2,h3,h4,h5,h6⟩:=hx
 dsimp only at h1 h2 h3 h4 h5 h6⊢
 by_cases hi:i<n
 ·have hkk:n-i=(n-(i+1))+1:=by omega
  rw[hkk]at h6
  simp only[spanAt]at h6
  have hK:=KK_fok hf ys ps.length i
  by_cases hz:ld4 (KK xs ys ps.length i)<0
  ·rw[decide_eq_true hz,cond_true]at h6
   refine⟨_,_,_,_,_,_,r161_1 n xs ps.length ps.length ys ps i (by omega), ?_,by simp,.inl ⟨rfl,(i+1,ys,ps),⟨by omega,by dsimp only;omega,h3,h4,h5,h6⟩,by dsimp only;omega,rfl,rfl⟩⟩
   simp only[h4,h5,iniK_fok hf,Bool.and_true,Bool.true_and,Bool.and_eq_true,decide_eq_true_eq]
   omega
  ·rw[decide_eq_false hz,cond_false]at h6
   have h0:0≤ld4 (KK xs ys ps.length i):=by omega
   have hb:ld4 (KK xs ys ps.length i)≤3:=by rcases ld4_cases h0 with h|h|h|h<;>omega
   refine⟨_,_,_,_,_,_,r161_2 n xs ps.length ps.length ys ps i (by omega), ?_,by simp,
    .inl ⟨rfl,(i+1,ys++oneK (KK xs ys ps.length i),ps++[(i:Int)]),⟨by omega,by simp;omega,by simp[oneK_len];omega,allFok_app h4 (oneK_fok _), ?_,h6⟩,by dsimp only;omega, ?_,rfl⟩⟩
   ·simp only[h4,h5,iniK_fok hf,allFok_get hK,at4_fok hK,cI,inv_fok,Bool.and_true,Bool.true_and,Bool.and_eq_true,decide_eq_true_eq,Bool.not_eq_true',decide_eq_false_iff_not,true_and,and_true]
    omega
   ·dsimp only;rw[List.length_append];exact ldsOk_app h3 h5 hK h0
   ·dsimp only;rw[List.length_append];rfl
 ·have hz:n-i=0:=by omega
  rw[hz]at h6
  simp only[spanAt]at h6
  exact⟨_,_,_,_,_,_,r161_3 n xs ps.length ps.length ys ps i,by simp;omega,by simp,.inr ⟨rfl,by rw[←h6]⟩⟩
noncomputable def J161 (n:Nat) (xs:List Int):St:=
 stOf f161.ntmps [(3,.c (.ptr 0 0 0 0)),(12,.c (.view none (.ints .i64 xs) n 4 none)),(13,.c (.int .i64 n)),(14,.c (.int .i64 0))] [.live (.cells [.nils,.nils])]
def FFspan:Model:=fun args h=>
 match args,h with
 |[.c (.view _ (.ints .i64 xs) n 4 _)],[]=>
  some (.c (.ptr 0 0 0 0),[.live (.cells [.sl 1 0 (spanL xs n).2.length 12 none,.sl 2 0 (spanL xs n).2.length 1 none]),.live (.ints .i64 (spanL xs n).1),.live (.ints .i64 (spanL xs n).2)],[decide (n≤8),allFok xs])
 |_,_=>none
theorem m161:ModelN Tryz.prog 184 FFspan:=by
 intro args h res h' o hnorm he ho
 unfold FFspan at he
 split at he
 case h_2=>cases he
 rename_i nl xs n cap
 simp only[Option.some.injEq,Prod.mk.injEq]at he
 obtain⟨rfl,rfl,rfl⟩:=he
 simp only[List.mem_cons,List.not_mem_nil,or_false,forall_eq_or_imp,forall_eq,decide_eq_true_eq]at ho
 obtain⟨o1,o2⟩:=ho
 simp only[normA,AV.norm,normL,Cell.norm,Con.size,List.cons.injEq,AV.c.injEq,AV.agg.injEq,Cell.view.injEq,nlen_one,true_and,and_true]at hnorm
 obtain⟨hn1,hn2,hn3⟩:=hnorm
 refine Meets.len ⟨f161,by kernel_rfl,by kernel_rfl,by kernel_rfl⟩ fun hlen=> ?_
 simp only[List.mem_cons,List.not_mem_nil,or_false,forall_eq,AV.lenOk,Cell.lenOk,Con.size]at hlen
 subst hn1 hn3
 have g:=(l161 n xs o1 hlen.symm o2).pre (s:=J161 n xs) ((Weak.nilH 0 0 0 12 (.ints .i64 []) rfl _).trans (Weak.nilH 0 0 1 1 (.ints .i64 []) rfl _))
 exact meets_of t17 (fn:=f161) (lc:=[(0,⟨liveH f161 0,J161 n xs,.normal,X161 (spanL xs n).2.length (spanL xs n).2.length (spanL xs n).1 (spanL xs n).2⟩)]) (fuel:=100) (p:=[])
  (o:=⟨_,_,true,[J161 n xs=J161 n xs]⟩)
  (by kernel_rfl) (by kernel_rfl) (by kernel_rfl) rfl (by simp) (fun cc hc=>LcOk.cons (c:=cc) (by cases hc;kernel_rfl) (by cases hc;exact g) LcOk.nil)
end Go.Proofs.YthapjdpkelihiaaGreat.Am
end
section
namespace Go.Proofs.YthapjdpkelihiaaGreat.Am
def T18:List Entry:=[⟨184,[],nm FFspan⟩]++T17
theorem e18:EntriesOk Tryz.prog T18:=by
 refine EntriesOk.append ?_ e17
 intro e he
 simp only[List.mem_cons,List.not_mem_nil,or_false]at he
 subst he;exact m161.ok
theorem t18:CtOk Tryz.prog (ctOf T18):=ctOf_ok e18
theorem x159_1 (xs:List Int) (n:Nat):evalF tt (ctOf T18) [] 100 Tryz.f182 [.c (.view none (.ints .i64 xs) n 4 none)] [] []=
  some ⟨.c (.int .i64 (↑(spanL xs n).snd.length:Int)),[],(decide (n≤8)&&((allFok xs)&&true)),[]⟩:=by kernel_rfl
def rankL (xs:List Int) (n:Nat):Nat:=(spanL xs n).2.length
def FFrank:Model:=fun args h=>
 match args,h with
 |[.c (.view _ (.ints .i64 xs) n 4 _)],[]=>
  some (.c (.int .i64 (rankL xs n)),[],[decide (n≤8),allFok xs])
 |_,_=>none
theorem m159:ModelN Tryz.prog 182 FFrank:=by
 intro args h res h' o hnorm he ho
 unfold FFrank at he
 split at he
 case h_2=>cases he
 rename_i nl xs n cap
 simp only[Option.some.injEq,Prod.mk.injEq]at he
 obtain⟨rfl,rfl,rfl⟩:=he
 simp only[List.mem_cons,List.not_mem_nil,or_false,forall_eq_or_imp,forall_eq,decide_eq_true_eq]at ho
 obtain⟨o1,o2⟩:=ho
 simp only[normA,AV.norm,normL,Cell.norm,Con.size,List.cons.injEq,AV.c.injEq,AV.agg.injEq,Cell.view.injEq,nlen_one,true_and,and_true]at hnorm
 obtain⟨hn1,hn2,hn3⟩:=hnorm
 subst hn1 hn3
 exact meets_of t18 (by kernel_rfl) (by kernel_rfl) (x159_1 xs n) (by simp[o1,o2]) (by simp) (fun c _=>LcOk.nil)
def T19:List Entry:=[⟨182,[],nm FFrank⟩]++T18
theorem e19:EntriesOk Tryz.prog T19:=by
 refine EntriesOk.append ?_ e18
 intro e he
 simp only[List.mem_cons,List.not_mem_nil,or_false]at he
 subst he;exact m159.ok
theorem t19:CtOk Tryz.prog (ctOf T19):=ctOf_ok e19
theorem x138_1 (k:Int) (v:List Int):evalF tt (ctOf T19) [] 100 Tryz.f151 [.c (.int .i64 k),.c (.view none (.ints .i64 v) v.length 1 none)] [] []=
  some ⟨.c (.bool ((↑(rankL (rowsL k v) v.length):Int)==4)),[],(decide (v.length≤274877906944)&&(bet k 1 2&&(allShard v&&(decide (v.length*4=(rowsL k v).length)&&(decide (v.length≤8)&&((allFok (rowsL k v))&&true)))))),[]⟩:=by kernel_rfl
def bearsL (k:Int) (v:List Int):Bool:=(rankL (rowsL k v) v.length:Int)==4
def FFbears:Model:=fun args h=>
 match args,h with
 |[.c (.int .i64 k),.c (.view _ (.ints .i64 v) n 1 _)],[]=>
  some (.c (.bool (bearsL k v)),[],[decide (v.length≤8),bet k 1 2,allShard v])
 |_,_=>none
theorem row4_fok {k a:Int} (hk:bet k 1 2=true) (ha:bet a 0 7=true):allFok (row4 k a)=true:=by
 refine of16 (q:=fun k a=>allFok (row4 k a)=true) (fun i hi=> ?_) hk ha
 have all:allK (fun k=>allFok (row4 ((k/8:Nat)+1:Int) (k%8:Nat))) 16=true:=by kernel_rfl
 exact allK_spec all i hi
theorem rowsAt_fok {k:Int} (hk:bet k 1 2=true) {v:List Int} (hv:allShard v=true): ∀m i,i+m≤v.length→allFok (rowsAt k v m i)=true
 |0,_,_=>rfl
 |m+1,i,h=>allFok_app (row4_fok hk (allShard_get hv (by omega))) (rowsAt_fok hk hv m (i+1) (by omega))
theorem rowsL_fok {k:Int} (hk:bet k 1 2=true) {v:List Int} (hv:allShard v=true):allFok (rowsL k v)=true:=rowsAt_fok hk hv _ _ (by omega)
theorem rowsAt_len (k:Int) (v:List Int): ∀m i,(rowsAt k v m i).length=m*4
 |0,_=>by simp[rowsAt]
 |m+1,i=>by simp[rowsAt,row4,rowsAt_len k v m (i+1)];omega
theorem rowsL_len (k:Int) (v:List Int):(rowsL k v).length=v.length*4:=rowsAt_len k v _ _
theorem m138:ModelN Tryz.prog 151 FFbears:=by
 intro args h res h' o hnorm he ho
 unfold FFbears at he
 split at he
 case h_2=>cases he
 rename_i k nl v n cap
 simp only[Option.some.injEq,Prod.mk.injEq]at he
 obtain⟨rfl,rfl,rfl⟩:=he
 simp only[List.mem_cons,List.not_mem_nil,or_false,forall_eq_or_imp,forall_eq,decide_eq_true_eq]at ho
 obtain⟨o1,o2,o3⟩:=ho
 simp only[normA,AV.norm,normL,Cell.norm,Con.size,List.cons.injEq,AV.c.injEq,AV.agg.injEq,Cell.view.injEq,nlen_one,true_and,and_true]at hnorm
 obtain⟨rfl,rfl,rfl⟩:=hnorm
 exact meets_of t19 (by kernel_rfl) (by kernel_rfl) (x138_1 k v) (by simp[o1,o2,o3,rowsL_fok,rowsL_len];omega) (by simp) (fun c _=>LcOk.nil)
end Go.Proofs.YthapjdpkelihiaaGreat.Am
end
section
namespace Go.Proofs.YthapjdpkelihiaaGreat.Am
def runN {β:Type} (step:Nat→β→β):Nat→Nat→β→β
 |0,_,b=>b
 |f+1,i,b=>runN step f (i+1) (step i b)
def runE {β γ:Type} (step:Nat→β→β⊕γ):Nat→Nat→β→β⊕γ
 |0,_,b=> .inl b
 |f+1,i,b=>match step i b with
  |.inl b'=>runE step f (i+1) b'
  |.inr c=> .inr c
theorem runN_inv {β:Type} {step:Nat→β→β} (Inv:Nat→β→Prop): ∀(f i:Nat) (b:β),Inv i b→(∀k b,i≤k→k<i+f→Inv k b→Inv (k+1) (step k b))→Inv (i+f) (runN step f i b)
 |0,i,b,h,_=>h
 |f+1,i,b,h,hs=>by
  have:=runN_inv (step:=step) Inv f (i+1) (step i b) (hs i b (Nat.le_refl _) (by omega) h) (fun k b h1 h2=>hs k b (by omega) (by omega))
  rw[show i+(f+1)=i+1+f from by omega]
  exact this
theorem runN_inv0 {β:Type} {step:Nat→β→β} (Inv:Nat→β→Prop) (n:Nat) (b:β) (h:Inv 0 b) (hs: ∀k b,k<n→Inv k b→Inv (k+1) (step k b)):Inv n (runN step n 0 b):=by
 have:=runN_inv Inv n 0 b h (fun k b _ h2=>hs k b (by omega))
 rwa[Nat.zero_add]at this
theorem runN_congr {β:Type} {s s':Nat→β→β}: ∀(f i:Nat) (b:β),(∀k b,i≤k→k<i+f→s k b=s' k b)→runN s f i b=runN s' f i b
 |0,_,_,_=>rfl
 |f+1,i,b,h=>by
  simp only[runN]
  rw[h i b (Nat.le_refl _) (by omega)]
  exact runN_congr f (i+1) _ fun k b h1 h2=>h k b (by omega) (by omega)
def allR (f:Nat→Bool):Nat→Nat→Bool
 |0,_=>true
 |n+1,i=>f i&&allR f n (i+1)
theorem allR_spec {f:Nat→Bool}: ∀ {n i:Nat},allR f n i=true↔ ∀k,i≤k→k<i+n→f k=true
 |0,i=>⟨fun _ k h1 h2=>absurd h1 (by omega),fun _=>rfl⟩
 |n+1,i=>by
  simp only[allR,Bool.and_eq_true,allR_spec (n:=n) (i:=i+1)]
  constructor
  ·rintro⟨h1,h2⟩ k h3 h4
   by_cases e:k=i
   ·subst e;exact h1
   ·exact h2 k (by omega) (by omega)
  ·intro h
   exact⟨h i (Nat.le_refl _) (by omega),fun k h1 h2=>h k (by omega) (by omega)⟩
theorem runE_all (f:Nat→Bool): ∀(n i:Nat),runE (β:=Unit) (γ:=Unit) (fun i _=>bif f i then .inl ()else .inr ()) n i ()=bif allR f n i then .inl ()else .inr ()
 |0,i=>rfl
 |n+1,i=>by
  simp only[runE,allR]
  cases h:f i
  ·rfl
  ·exact runE_all f n (i+1)
inductive Rnd (m:Nat) (live liveX:List Nat) (r:Option Out) (ex:Ex) (s:St):Prop
 |mk (b:Bool) (q:List Prop) (h:roundR m live liveX r=some (ex,b,q,s)) (hb:b=true) (hq: ∀x∈q,x)
section
variable {P : Program} {tt : Tab} (hT : TTok P tt) {ct : CT} (hct : CtOk P ct) (hmix : P.follows .mixedOrders = true)
include hT hct hmix
theorem Good.count {m id:Nat} {body:Code} {β:Type} (n:Nat) (Inv:Nat→β→Prop) (I:Nat→β→St) (X:β→St) (step:Nat→β→β) (live liveX:List Nat) (lc:Nat→β→List (Nat×LC))
  (hlc: ∀i b,i<n→Inv i b→LcOk P m (lc i b) body)
  (hr: ∀i b,i<n→Inv i b→Inv (i+1) (step i b)∧ ∃f p,Rnd m live liveX (evalC tt ct (lc i b) m f body (I i b) p) .normal (I (i+1) (step i b)))
  (hx: ∀b,Inv n b→ ∃f p,Rnd m live liveX (evalC tt ct [] m f body (I n b) p) (.exit id) (X b)):
  ∀b,Inv 0 b→Good P m (.block id (.loop body)) (I 0 b) fun e t=>e=.normal∧t=X (runN step n 0 b):=by
 intro b hb
 refine Good.roundsN hT hct hmix (m:=m) (id:=id) (body:=body) (α:=Nat×β) (fun x=>x.1≤n∧Inv x.1 x.2) (fun x=>I x.1 x.2) (fun x=>n-x.1) live liveX
  (fun x=>X (runN step (n-x.1) x.1 x.2)) (fun x=>if x.1<n then lc x.1 x.2 else []) (fun x h=>by
   split
   ·rename_i hi;exact hlc _ _ hi h.2
   ·exact LcOk.nil) (fun x hinv=> ?_) (0,b) ⟨Nat.zero_le _,hb⟩
 obtain⟨i,b⟩:=x
 obtain⟨h1,h2⟩:=hinv
 dsimp only at h1 h2⊢
 by_cases hi:i<n
 ·rw[if_pos hi]
  obtain⟨g1,f,p,⟨o,q,h,ho,hq⟩⟩:=hr i b hi h2
  refine⟨f,p,_,o,q,_,h,ho,hq,.inl ⟨rfl,(i+1,step i b),⟨by omega,g1⟩,by dsimp only;omega,rfl, ?_⟩⟩
  dsimp only
  rw[show n-i=(n-(i+1))+1 from by omega];rfl
 ·have e:i=n:=by omega
  subst e
  rw[if_neg hi]
  obtain⟨f,p,⟨o,q,h,ho,hq⟩⟩:=hx b h2
  exact⟨f,p,_,o,q,_,h,ho,hq,.inr ⟨rfl,by rw[Nat.sub_self];rfl⟩⟩
theorem Good.countE {m id:Nat} {body:Code} {β γ:Type} (n:Nat) (Inv:Nat→β→Prop) (I:Nat→β→St) (X:β→St) (Y:γ→St) (exY:Ex) (hexY:exY=.normal∨exY=.ret) (step:Nat→β→β⊕γ)
  (live liveX:List Nat) (lc:Nat→β→List (Nat×LC))
  (hlc: ∀i b,i<n→Inv i b→LcOk P m (lc i b) body)
  (hr: ∀i b,i<n→Inv i b→(∃b',step i b=.inl b'∧Inv (i+1) b'∧ ∃f p,Rnd m live liveX (evalC tt ct (lc i b) m f body (I i b) p) .normal (I (i+1) b'))∨
   (∃c,step i b=.inr c∧ ∃f p,Rnd m live liveX (evalC tt ct (lc i b) m f body (I i b) p) (if exY=.normal then .exit id else exY) (Y c)))
  (hx: ∀b,Inv n b→ ∃f p,Rnd m live liveX (evalC tt ct [] m f body (I n b) p) (.exit id) (X b)):
  ∀b,Inv 0 b→Good P m (.block id (.loop body)) (I 0 b) fun e t=>match runE step n 0 b with
   |.inl b'=>e=.normal∧t=X b'
   |.inr c=>e=exY∧t=Y c:=by
 intro b hb
 have key:=Good.roundsR hT hct hmix (m:=m) (id:=id) (body:=body) (α:=Nat×β) (fun x=>x.1≤n∧Inv x.1 x.2) (fun x=>I x.1 x.2) (fun x=>n-x.1) live liveX
  (fun x=>match runE step (n-x.1) x.1 x.2 with|.inl _=> .normal|.inr _=>exY) (fun x=>match runE step (n-x.1) x.1 x.2 with|.inl b'=>X b'|.inr c=>Y c)
  (fun x=>if x.1<n then lc x.1 x.2 else []) (fun x h=>by
   split
   ·rename_i hi;exact hlc _ _ hi h.2
   ·exact LcOk.nil) (fun x hinv=> ?_) (0,b) ⟨Nat.zero_le _,hb⟩
 ·refine Good.mono key fun e t h=> ?_
  dsimp only[Nat.sub_zero]at h
  revert h
  cases runE step n 0 b<;>exact fun h=>h
 ·obtain⟨i,b⟩:=x
  obtain⟨h1,h2⟩:=hinv
  dsimp only at h1 h2⊢
  by_cases hi:i<n
  ·rw[if_pos hi]
   have hk:n-i=(n-(i+1))+1:=by omega
   rcases hr i b hi h2 with⟨b',hs,g1,f,p,⟨o,q,h,ho,hq⟩⟩|⟨c,hs,f,p,⟨o,q,h,ho,hq⟩⟩
   ·refine⟨f,p,_,o,q,_,h,ho,hq,.inl ⟨rfl,(i+1,b'),⟨by omega,g1⟩,by dsimp only;omega,rfl, ?_, ?_⟩⟩
    ·dsimp only;rw[hk];simp only[runE,hs]
    ·dsimp only;rw[hk];simp only[runE,hs]
   ·have e1:runE step (n-i) i b=.inr c:=by rw[hk];simp only[runE,hs]
    rw[e1]
    rcases hexY with e|e
    ·subst e
     rw[if_pos rfl]at h
     exact⟨f,p,_,o,q,_,h,ho,hq,.inr (.inl ⟨rfl,rfl,rfl⟩)⟩
    ·subst e
     rw[if_neg (by intro h;cases h)]at h
     exact⟨f,p,_,o,q,_,h,ho,hq,.inr (.inr ⟨(by intro h;cases h),(by intro h;cases h),rfl,rfl⟩)⟩
  ·have e:i=n:=by omega
   subst e
   rw[if_neg hi]
   obtain⟨f,p,⟨o,q,h,ho,hq⟩⟩:=hx b h2
   have e1:runE step (i-i) i b=.inl b:=by rw[Nat.sub_self];rfl
   rw[e1]
   exact⟨f,p,_,o,q,_,h,ho,hq,.inr (.inl ⟨rfl,rfl,rfl⟩)⟩
theorem Good.all {m id:Nat} {body:Code} (n:Nat) (f:Nat→Bool) (I:Nat→St) (X Y:St) (exY:Ex) (hexY:exY=.normal∨exY=.ret) (live liveX:List Nat) (lc:Nat→List (Nat×LC))
  (hlc: ∀i,i<n→LcOk P m (lc i) body)
  (ht: ∀i,i<n→f i=true→ ∃g p,Rnd m live liveX (evalC tt ct (lc i) m g body (I i) p) .normal (I (i+1)))
  (hf: ∀i,i<n→f i=false→ ∃g p,Rnd m live liveX (evalC tt ct (lc i) m g body (I i) p) (if exY=.normal then .exit id else exY) Y)
  (hx: ∃g p,Rnd m live liveX (evalC tt ct [] m g body (I n) p) (.exit id) X):
  Good P m (.block id (.loop body)) (I 0) fun e t=>e=(bif allR f n 0 then .normal else exY)∧t=bif allR f n 0 then X else Y:=by
 have key:=Good.countE hT hct hmix (m:=m) (id:=id) (body:=body) (β:=Unit) (γ:=Unit) n (fun _ _=>True) (fun i _=>I i) (fun _=>X) (fun _=>Y) exY hexY (fun i _=>bif f i then .inl ()else .inr ())
  live liveX (fun i _=>lc i) (fun i _ h _=>hlc i h) (fun i _ hi _=> ?_) (fun _ _=>hx) () trivial
 ·refine Good.mono key fun e t h=> ?_
  rw[runE_all]at h
  revert h
  cases allR f n 0<;>exact fun h=>h
 ·cases h:f i with
  |true=>exact .inl ⟨(),rfl,trivial,ht i hi h⟩
  |false=>exact .inr ⟨(),rfl,hf i hi h⟩
end
end Go.Proofs.YthapjdpkelihiaaGreat.Am
end
section
namespace Go.Proofs.YthapjdpkelihiaaGreat.Am
def T20:List Entry:=[⟨151,[],nm FFbears⟩]++T19
theorem e20:EntriesOk Tryz.prog T20:=by
 refine EntriesOk.append ?_ e19
 intro e he
 simp only[List.mem_cons,List.not_mem_nil,or_false]at he
 subst he;exact m138.ok
theorem t20:CtOk Tryz.prog (ctOf T20):=ctOf_ok e20
noncomputable abbrev f139:=Tryz.f152
def rowK (ys:List Int) (i:Nat):List Int:=[ys.getD (i*12+0) 0,ys.getD (i*12+1) 0,ys.getD (i*12+2) 0,ys.getD (i*12+3) 0,ys.getD (i*12+4) 0,ys.getD (i*12+5) 0,ys.getD (i*12+6) 0,ys.getD (i*12+7) 0,ys.getD (i*12+8) 0,ys.getD (i*12+9) 0,ys.getD (i*12+10) 0,ys.getD (i*12+11) 0]
noncomputable def I139a (w v ys:List Int) (r:Nat) (n:Nat) (zs:List Int) (i:Int):St:=
 stOf f139.ntmps [(1,.c (.view none (.ints .i64 w) w.length 1 none)),(2,.c (.view none (.ints .i64 v) v.length 1 none)),(6,.c (.ptr 0 0 0 0)),(7,.c (.ptr 1 0 0 0)),(9,.c (.sl 2 0 n 5 none)),
  (29,.c (.sl 3 0 r 12 none)),(30,.c (.int .i64 r)),(31,.c (.int .i64 i))]
  [.live (.ints .i64 [0,0,0,0]),.live (.ints .i64 [0,0,0,0]),.live (.ints .i64 zs),.live (.ints .i64 ys)]
noncomputable def I139b (w v ys:List Int) (r n:Nat) (zs kk:List Int) (i val j:Int):St:=
 stOf f139.ntmps [(1,.c (.view none (.ints .i64 w) w.length 1 none)),(2,.c (.view none (.ints .i64 v) v.length 1 none)),(6,.c (.ptr 0 0 0 0)),(7,.c (.ptr 1 0 0 0)),(9,.c (.sl 2 0 n 5 none)),
  (11,.c (.ptr 3 0 0 0)),(12,.c (.int .i64 val)),(29,.c (.sl 4 0 r 12 none)),(30,.c (.int .i64 r)),(31,.c (.int .i64 i)),(35,.c (.view none (.ints .i64 v) v.length 1 none)),(36,.c (.int .i64 v.length)),
  (37,.c (.int .i64 j))]
  [.live (.ints .i64 [0,0,0,0]),.live (.ints .i64 [0,0,0,0]),.live (.ints .i64 zs),.live (.ints .i64 kk),.live (.ints .i64 ys)]
noncomputable def X139b (w v ys:List Int) (r n:Nat) (zs kk:List Int) (i val:Int):St:=
 stOf f139.ntmps [(1,.c (.view none (.ints .i64 w) w.length 1 none)),(2,.c (.view none (.ints .i64 v) v.length 1 none)),(6,.c (.ptr 0 0 0 0)),(7,.c (.ptr 1 0 0 0)),(9,.c (.sl 2 0 n 5 none)),
  (11,.c (.ptr 3 0 0 0)),(12,.c (.int .i64 val)),(29,.c (.sl 4 0 r 12 none)),(30,.c (.int .i64 r)),(31,.c (.int .i64 i))]
  [.live (.ints .i64 [0,0,0,0]),.live (.ints .i64 [0,0,0,0]),.live (.ints .i64 zs),.live (.ints .i64 kk),.live (.ints .i64 ys)]
noncomputable def X139a (zs:List Int) (n:Nat):St:=
 stOf f139.ntmps [(6,.c (.ptr 0 0 0 0)),(7,.c (.ptr 1 0 0 0)),(9,.c (.sl 2 0 n 5 none))]
  [.live (.ints .i64 [0,0,0,0]),.live (.ints .i64 [0,0,0,0]),.live (.ints .i64 zs)]
theorem r139b_1 (w v ys:List Int) (r n:Nat) (zs kk:List Int) (i val j:Int):roundR 0 (liveH f139 2) (liveB' f139 2) (evalC tt (ctOf T20) [] 0 100 (bodyAt 2 (codeOf f139)) (I139b w v ys r n zs kk i val j) [(0,true)])=
  some (.normal,(decide (j<(↑v.length:Int))&&(decide (0≤j)&&(decide (j<(↑v.length:Int))&&(decide (j.toNat<v.length)&&(decide (0≤j)&&(decide (j<8)&&(decide (j.toNat*1+4<kk.length)&&(decide (0≤v.getD j.toNat 0)&&(decide (v.getD j.toNat 0<(↑w.length:Int))&&(decide ((v.getD j.toNat 0).toNat<w.length)&&(fok (kk.getD (j.toNat*1+4) 0)&&(fok (w.getD (v.getD j.toNat 0).toNat 0)&&(fok val&&((fok (kk.getD (j.toNat*1+4) 0*w.getD (v.getD j.toNat 0).toNat 0%31))&&true)))))))))))))),[],I139b w v ys r n zs kk i ((val+kk.getD (j.toNat*1+4) 0*w.getD (v.getD j.toNat 0).toNat 0%31)%31) (IntKind.i64.wrap (j+1))):=by kernel_rfl
theorem r139b_2 (w v ys:List Int) (r n:Nat) (zs kk:List Int) (i val j:Int):roundR 0 (liveH f139 2) (liveB' f139 2) (evalC tt (ctOf T20) [] 0 100 (bodyAt 2 (codeOf f139)) (I139b w v ys r n zs kk i val j) [(0,false)])=
  some (.exit 2,((!decide (j<(↑v.length:Int)))&&true),[],X139b w v ys r n zs kk i (val)):=by kernel_rfl
theorem r139a_1 (w v ys:List Int) (r n:Nat) (zs:List Int) (i val:Int):roundR 0 (liveH f139 0) (liveB' f139 0) (evalC tt (ctOf T20) [(2,⟨liveH f139 2,I139b w v ys r n zs (rowK ys i.toNat) i 0 0,.normal,X139b w v ys r n zs (rowK ys i.toNat) i val⟩)] 0 100 (bodyAt 0 (codeOf f139)) (I139a w v ys r n zs i) [(0,true)])=
  some (.normal,(decide (i<(↑r:Int))&&(decide (0≤i)&&(decide (i<(↑r:Int))&&(decide (i.toNat*12+12≤ys.length)&&(decide (n*5=zs.length)&&((decide (n+1≤274877906944))&&true)))))),[I139b w v ys r n zs (rowK ys i.toNat) i 0 0=I139b w v ys r n zs (rowK ys i.toNat) i 0 0],I139a w v ys r (n+1) (zs++[ys.getD (i.toNat*12) 0,ys.getD (i.toNat*12+1) 0,ys.getD (i.toNat*12+2) 0,ys.getD (i.toNat*12+3) 0,val]) (IntKind.i64.wrap (i+1))):=by kernel_rfl
theorem r139a_2 (w v ys:List Int) (r n:Nat) (zs:List Int) (i val:Int) (lcv:List (Nat×LC)):roundR 0 (liveH f139 0) (liveB' f139 0) (evalC tt (ctOf T20) lcv 0 100 (bodyAt 0 (codeOf f139)) (I139a w v ys r n zs i) [(0,false)])=
  some (.exit 0,((!decide (i<(↑r:Int)))&&true),[],X139a (zs) (n)):=by kernel_rfl
def setR (zs:List Int) (j:Nat) (a b c d:Int):List Int:=(((zs.set (j*5) a).set (j*5+1) b).set (j*5+2) c).set (j*5+3) d
def elC (zs:List Int) (at_:Int) (j:Nat):Int:=zs.getD (j*5+at_.toNat*1) 0
def elE (zs:List Int) (i j:Nat) (at_:Int) (q:Nat):Int:=(zs.getD (j*5+q) 0+zs.getD (i*5+q) 0*elC zs at_ j%31*30%31)%31
def elimR (zs:List Int) (i:Nat) (at_:Int) (j:Nat):List Int:=setR zs j (elE zs i j at_ 0) (elE zs i j at_ 1) (elE zs i j at_ 2) (elE zs i j at_ 3)
def elimS (zs:List Int) (i:Nat) (at_:Int) (j:Nat):List Int:=
 (elimR zs i at_ j).set (j*5+4) (((elimR zs i at_ j).getD (j*5+4) 0-(elimR zs i at_ j).getD (i*5+4) 0*elC zs at_ j%31)%31)
def ld5 (zs:List Int) (i:Nat):Int:=idxL (fun x=>x !=0) [zs.getD (i*5) 0,zs.getD (i*5+1) 0,zs.getD (i*5+2) 0,zs.getD (i*5+3) 0]
noncomputable def I139c (n:Nat) (zs:List Int) (i:Int):St:=
 stOf f139.ntmps [(6,.c (.ptr 0 0 0 0)),(7,.c (.ptr 1 0 0 0)),(9,.c (.sl 2 0 n 5 none)),(63,.c (.int .i64 n)),(64,.c (.int .i64 i))]
  [.live (.ints .i64 [0,0,0,0]),.live (.ints .i64 [0,0,0,0]),.live (.ints .i64 zs)]
noncomputable def I139d (n:Nat) (zs:List Int) (i at_ j:Int):St:=
 stOf f139.ntmps [(6,.c (.ptr 0 0 0 0)),(7,.c (.ptr 1 0 0 0)),(9,.c (.sl 2 0 n 5 none)),(15,.c (.int .i64 i)),(16,.c (.int .i64 at_)),(63,.c (.int .i64 n)),(64,.c (.int .i64 i)),(74,.c (.int .i64 n)),
  (75,.c (.int .i64 j))]
  [.live (.ints .i64 [0,0,0,0]),.live (.ints .i64 [0,0,0,0]),.live (.ints .i64 zs)]
noncomputable def X139d (n:Nat) (zs:List Int) (i:Int):St:=
 stOf f139.ntmps [(6,.c (.ptr 0 0 0 0)),(7,.c (.ptr 1 0 0 0)),(9,.c (.sl 2 0 n 5 none)),(63,.c (.int .i64 n)),(64,.c (.int .i64 i))]
  [.live (.ints .i64 [0,0,0,0]),.live (.ints .i64 [0,0,0,0]),.live (.ints .i64 zs)]
noncomputable def X139c (n:Nat) (zs:List Int):St:=
 stOf f139.ntmps [(6,.c (.ptr 0 0 0 0)),(7,.c (.ptr 1 0 0 0)),(9,.c (.sl 2 0 n 5 none))]
  [.live (.ints .i64 [0,0,0,0]),.live (.ints .i64 [0,0,0,0]),.live (.ints .i64 zs)]
theorem r139d_1 (n:Nat) (zs:List Int) (i at_ j:Int):roundR 0 (liveH f139 6) (liveB' f139 6) (evalC tt (ctOf T20) [] 0 100 (bodyAt 6 (codeOf f139)) (I139d n zs i at_ j) [(0,true),(0,true),(0,true)])=
  some (.normal,(decide (j<(↑n:Int))&&(decide (0≤j)&&(decide (j<(↑n:Int))&&(decide (0≤at_)&&(decide (at_<4)&&(decide (j.toNat*5+at_.toNat*1<zs.length)&&((j !=i)&&((j !=i)&&((bif j !=i then zs.getD (j.toNat*5+at_.toNat*1) 0 !=0 else false)&&(decide (0≤j)&&(decide (j<(↑n:Int))&&(decide (j.toNat*5+4≤zs.length)&&(decide (0≤i)&&(decide (i<(↑n:Int))&&(decide (i.toNat*5+4≤zs.length)&&(fok (zs.getD (i.toNat*5) 0)&&(fok (zs.getD (j.toNat*5+at_.toNat*1) 0)&&(fok (zs.getD (i.toNat*5+1) 0)&&(fok (zs.getD (j.toNat*5+at_.toNat*1) 0)&&(fok (zs.getD (i.toNat*5+2) 0)&&(fok (zs.getD (j.toNat*5+at_.toNat*1) 0)&&(fok (zs.getD (i.toNat*5+3) 0)&&(fok (zs.getD (j.toNat*5+at_.toNat*1) 0)&&(fok (zs.getD (j.toNat*5) 0)&&(fok (zs.getD (i.toNat*5) 0*zs.getD (j.toNat*5+at_.toNat*1) 0%31)&&(fok (zs.getD (j.toNat*5+1) 0)&&(fok (zs.getD (i.toNat*5+1) 0*zs.getD (j.toNat*5+at_.toNat*1) 0%31)&&(fok (zs.getD (j.toNat*5+2) 0)&&(fok (zs.getD (i.toNat*5+2) 0*zs.getD (j.toNat*5+at_.toNat*1) 0%31)&&(fok (zs.getD (j.toNat*5+3) 0)&&(fok (zs.getD (i.toNat*5+3) 0*zs.getD (j.toNat*5+at_.toNat*1) 0%31)&&(decide (0≤j)&&(decide (j<(↑n:Int))&&(decide (j.toNat*5+4≤zs.length)&&(decide (0≤j)&&(decide (j<(↑n:Int))&&(decide (j.toNat*5+4<((((zs.set (j.toNat*5) ((zs.getD (j.toNat*5) 0+zs.getD (i.toNat*5) 0*zs.getD (j.toNat*5+at_.toNat*1) 0%31*30%31)%31)).set (j.toNat*5+1) ((zs.getD (j.toNat*5+1) 0+zs.getD (i.toNat*5+1) 0*zs.getD (j.toNat*5+at_.toNat*1) 0%31*30%31)%31)).set (j.toNat*5+2) ((zs.getD (j.toNat*5+2) 0+zs.getD (i.toNat*5+2) 0*zs.getD (j.toNat*5+at_.toNat*1) 0%31*30%31)%31)).set (j.toNat*5+3) ((zs.getD (j.toNat*5+3) 0+zs.getD (i.toNat*5+3) 0*zs.getD (j.toNat*5+at_.toNat*1) 0%31*30%31)%31)).length)&&(decide (0≤i)&&(decide (i<(↑n:Int))&&(decide (i.toNat*5+4<((((zs.set (j.toNat*5) ((zs.getD (j.toNat*5) 0+zs.getD (i.toNat*5) 0*zs.getD (j.toNat*5+at_.toNat*1) 0%31*30%31)%31)).set (j.toNat*5+1) ((zs.getD (j.toNat*5+1) 0+zs.getD (i.toNat*5+1) 0*zs.getD (j.toNat*5+at_.toNat*1) 0%31*30%31)%31)).set (j.toNat*5+2) ((zs.getD (j.toNat*5+2) 0+zs.getD (i.toNat*5+2) 0*zs.getD (j.toNat*5+at_.toNat*1) 0%31*30%31)%31)).set (j.toNat*5+3) ((zs.getD (j.toNat*5+3) 0+zs.getD (i.toNat*5+3) 0*zs.getD (j.toNat*5+at_.toNat*1) 0%31*30%31)%31)).length)&&(fok (((((zs.set (j.toNat*5) ((zs.getD (j.toNat*5) 0+zs.getD (i.toNat*5) 0*zs.getD (j.toNat*5+at_.toNat*1) 0%31*30%31)%31)).set (j.toNat*5+1) ((zs.getD (j.toNat*5+1) 0+zs.getD (i.toNat*5+1) 0*zs.getD (j.toNat*5+at_.toNat*1) 0%31*30%31)%31)).set (j.toNat*5+2) ((zs.getD (j.toNat*5+2) 0+zs.getD (i.toNat*5+2) 0*zs.getD (j.toNat*5+at_.toNat*1) 0%31*30%31)%31)).set (j.toNat*5+3) ((zs.getD (j.toNat*5+3) 0+zs.getD (i.toNat*5+3) 0*zs.getD (j.toNat*5+at_.toNat*1) 0%31*30%31)%31)).getD (i.toNat*5+4) 0)&&(fok (zs.getD (j.toNat*5+at_.toNat*1) 0)&&(fok (((((zs.set (j.toNat*5) ((zs.getD (j.toNat*5) 0+zs.getD (i.toNat*5) 0*zs.getD (j.toNat*5+at_.toNat*1) 0%31*30%31)%31)).set (j.toNat*5+1) ((zs.getD (j.toNat*5+1) 0+zs.getD (i.toNat*5+1) 0*zs.getD (j.toNat*5+at_.toNat*1) 0%31*30%31)%31)).set (j.toNat*5+2) ((zs.getD (j.toNat*5+2) 0+zs.getD (i.toNat*5+2) 0*zs.getD (j.toNat*5+at_.toNat*1) 0%31*30%31)%31)).set (j.toNat*5+3) ((zs.getD (j.toNat*5+3) 0+zs.getD (i.toNat*5+3) 0*zs.getD (j.toNat*5+at_.toNat*1) 0%31*30%31)%31)).getD (j.toNat*5+4) 0)&&(fok (((((zs.set (j.toNat*5) ((zs.getD (j.toNat*5) 0+zs.getD (i.toNat*5) 0*zs.getD (j.toNat*5+at_.toNat*1) 0%31*30%31)%31)).set (j.toNat*5+1) ((zs.getD (j.toNat*5+1) 0+zs.getD (i.toNat*5+1) 0*zs.getD (j.toNat*5+at_.toNat*1) 0%31*30%31)%31)).set (j.toNat*5+2) ((zs.getD (j.toNat*5+2) 0+zs.getD (i.toNat*5+2) 0*zs.getD (j.toNat*5+at_.toNat*1) 0%31*30%31)%31)).set (j.toNat*5+3) ((zs.getD (j.toNat*5+3) 0+zs.getD (i.toNat*5+3) 0*zs.getD (j.toNat*5+at_.toNat*1) 0%31*30%31)%31)).getD (i.toNat*5+4) 0*zs.getD (j.toNat*5+at_.toNat*1) 0%31)&&(decide (0≤j)&&(decide (j<(↑n:Int))&&((decide (j.toNat*5+4<((((zs.set (j.toNat*5) ((zs.getD (j.toNat*5) 0+zs.getD (i.toNat*5) 0*zs.getD (j.toNat*5+at_.toNat*1) 0%31*30%31)%31)).set (j.toNat*5+1) ((zs.getD (j.toNat*5+1) 0+zs.getD (i.toNat*5+1) 0*zs.getD (j.toNat*5+at_.toNat*1) 0%31*30%31)%31)).set (j.toNat*5+2) ((zs.getD (j.toNat*5+2) 0+zs.getD (i.toNat*5+2) 0*zs.getD (j.toNat*5+at_.toNat*1) 0%31*30%31)%31)).set (j.toNat*5+3) ((zs.getD (j.toNat*5+3) 0+zs.getD (i.toNat*5+3) 0*zs.getD (j.toNat*5+at_.toNat*1) 0%31*30%31)%31)).length))&&true))))))))))))))))))))))))))))))))))))))))))))))),[],I139d n (elimS zs i.toNat at_ j.toNat) i at_ (IntKind.i64.wrap (j+1))):=by kernel_rfl
theorem r139d_2 (n:Nat) (zs:List Int) (i at_ j:Int):roundR 0 (liveH f139 6) (liveB' f139 6) (evalC tt (ctOf T20) [] 0 100 (bodyAt 6 (codeOf f139)) (I139d n zs i at_ j) [(0,true),(0,true),(0,false)])=
  some (.normal,(decide (j<(↑n:Int))&&(decide (0≤j)&&(decide (j<(↑n:Int))&&(decide (0≤at_)&&(decide (at_<4)&&(decide (j.toNat*5+at_.toNat*1<zs.length)&&((j !=i)&&((j !=i)&&((!bif j !=i then zs.getD (j.toNat*5+at_.toNat*1) 0 !=0 else false)&&true))))))))),[],I139d n (zs) i at_ (IntKind.i64.wrap (j+1))):=by kernel_rfl
theorem r139d_3 (n:Nat) (zs:List Int) (i at_ j:Int):roundR 0 (liveH f139 6) (liveB' f139 6) (evalC tt (ctOf T20) [] 0 100 (bodyAt 6 (codeOf f139)) (I139d n zs i at_ j) [(0,true),(0,false)])=
  some (.normal,(decide (j<(↑n:Int))&&(decide (0≤j)&&(decide (j<(↑n:Int))&&(decide (0≤at_)&&(decide (at_<4)&&(decide (j.toNat*5+at_.toNat*1<zs.length)&&((!j !=i)&&((!j !=i)&&((!j !=i)&&true))))))))),[],I139d n (zs) i at_ (IntKind.i64.wrap (j+1))):=by kernel_rfl
theorem r139d_4 (n:Nat) (zs:List Int) (i at_ j:Int):roundR 0 (liveH f139 6) (liveB' f139 6) (evalC tt (ctOf T20) [] 0 100 (bodyAt 6 (codeOf f139)) (I139d n zs i at_ j) [(0,false)])=
  some (.exit 6,((!decide (j<(↑n:Int)))&&true),[],X139d n (zs) i):=by kernel_rfl
theorem r139c_1 (n:Nat) (zs ts:List Int) (i:Int):roundR 0 (liveH f139 4) (liveB' f139 4) (evalC tt (ctOf T20) [(6,⟨liveH f139 6,I139d n zs i (ld5 zs i.toNat) 0,.normal,X139d n ts i⟩)] 0 100 (bodyAt 4 (codeOf f139)) (I139c n zs i) [(0,true)])=
  some (.normal,(decide (i<(↑n:Int))&&(decide (0≤i)&&(decide (i<(↑n:Int))&&((decide (i.toNat*5+4≤zs.length))&&true)))),[I139d n zs i (ld5 zs i.toNat) 0=I139d n zs i (ld5 zs i.toNat) 0],I139c n (ts) (IntKind.i64.wrap (i+1))):=by kernel_rfl
theorem r139c_2 (n:Nat) (zs ts:List Int) (i:Int) (lcv:List (Nat×LC)):roundR 0 (liveH f139 4) (liveB' f139 4) (evalC tt (ctOf T20) lcv 0 100 (bodyAt 4 (codeOf f139)) (I139c n zs i) [(0,false)])=
  some (.exit 4,((!decide (i<(↑n:Int)))&&true),[],X139c n (zs)):=by kernel_rfl
noncomputable def I139e (n:Nat) (zs out:List Int) (i:Int):St:=
 stOf f139.ntmps [(6,.c (.ptr 0 0 0 0)),(7,.c (.ptr 1 0 0 0)),(128,.c (.sl 2 0 n 5 none)),(129,.c (.int .i64 n)),(130,.c (.int .i64 i))]
  [.live (.ints .i64 [0,0,0,0]),.live (.ints .i64 out),.live (.ints .i64 zs)]
noncomputable def X139e (out:List Int):St:=
 stOf f139.ntmps [(6,.c (.ptr 0 0 0 0)),(7,.c (.ptr 1 0 0 0))] [.live (.ints .i64 [0,0,0,0]),.live (.ints .i64 out)]
theorem r139e_1 (n:Nat) (zs out:List Int) (i:Int):roundR 0 (liveH f139 8) (liveB' f139 8) (evalC tt (ctOf T20) [] 0 100 (bodyAt 8 (codeOf f139)) (I139e n zs out i) [(0,true)])=
  some (.normal,(decide (i<(↑n:Int))&&(decide (0≤i)&&(decide (i<(↑n:Int))&&(decide (i.toNat*5+5≤zs.length)&&(decide (0≤ld5 zs i.toNat)&&(decide (ld5 zs i.toNat<4)&&((decide ((ld5 zs i.toNat).toNat<out.length))&&true))))))),[],I139e n zs (out.set (ld5 zs i.toNat).toNat (zs.getD (i.toNat*5+4) 0)) (IntKind.i64.wrap (i+1))):=by kernel_rfl
theorem r139e_2 (n:Nat) (zs out:List Int) (i:Int):roundR 0 (liveH f139 8) (liveB' f139 8) (evalC tt (ctOf T20) [] 0 100 (bodyAt 8 (codeOf f139)) (I139e n zs out i) [(0,false)])=
  some (.exit 8,((!decide (i<(↑n:Int)))&&true),[],X139e (out)):=by kernel_rfl
end Go.Proofs.YthapjdpkelihiaaGreat.Am
end
section
namespace Go.Proofs.YthapjdpkelihiaaGreat.Am
theorem bet_iff {n lo hi:Int}:bet n lo hi=true↔lo≤n∧n≤hi:=by simp[bet]
def valS (w v kk:List Int) (j:Nat) (x:Int):Int:=(x+kk.getD (j*1+4) 0*w.getD (v.getD j 0).toNat 0%31)%31
def valL (w v kk:List Int):Int:=runN (valS w v kk) v.length 0 0
theorem l139b (w v ys:List Int) (r n:Nat) (zs kk:List Int) (i:Int) (hv:v.length≤8) (hs:allShard v=true) (hw:w.length=8) (hwf:allFok w=true) (hk:kk.length=12) (hkf:allFok kk=true):
  Good Tryz.prog 0 (.block 2 (.loop (bodyAt 2 (codeOf f139)))) (I139b w v ys r n zs kk i 0 0) fun e t=>e=.normal∧t=X139b w v ys r n zs kk i (valL w v kk):=by
 refine Good.count hT t20 hmix v.length (fun _ x=>fok x=true) (fun j x=>I139b w v ys r n zs kk i x j) (fun x=>X139b w v ys r n zs kk i x) (valS w v kk) (liveH f139 2) (liveB' f139 2)
  (fun _ _=>[]) (fun _ _ _ _=>LcOk.nil) (fun j x hj hx=>⟨fok_mod _, ?_⟩) (fun x hx=>⟨_,_,⟨_,_,r139b_2 w v ys r n zs kk i x v.length,by simp,by simp⟩⟩) 0 rfl
 ·have hb:=bet_iff.1 (allShard_get hs hj)
  have e:=r139b_1 w v ys r n zs kk i x j
  rw[wrap_small (by omega) (by omega),Int.toNat_natCast]at e
  refine⟨_,_,⟨_,_,e, ?_,by simp⟩⟩
  simp only[allFok_get hkf,allFok_get hwf,hx,fok_mod,Bool.true_and,Bool.and_true,Bool.and_eq_true,decide_eq_true_eq]
  omega
def toldS (w v ys:List Int) (i:Nat) (zs:List Int):List Int:=zs++[ys.getD (i*12) 0,ys.getD (i*12+1) 0,ys.getD (i*12+2) 0,ys.getD (i*12+3) 0,valL w v (rowK ys i)]
def toldL (w v ys:List Int) (r:Nat):List Int:=runN (toldS w v ys) r 0 []
theorem rowK_fok {ys:List Int} (h:allFok ys=true) (i:Nat):allFok (rowK ys i)=true:=by
 simp only[allFok,rowK,List.all_cons,List.all_nil,allFok_get h,Bool.and_self]
theorem runN_fok {step:Nat→Int→Int} (f i:Nat) (b:Int) (hb:fok b=true) (h: ∀k x,fok (step k x)=true):fok (runN step f i b)=true:=
 runN_inv (fun _ x=>fok x=true) f i b hb fun k x _ _ _=>h k x
theorem valL_fok (w v kk:List Int):fok (valL w v kk)=true:=runN_fok _ _ _ rfl fun _ _=>fok_mod _
theorem toldS_ok {w v ys:List Int} (hy:allFok ys=true) {i:Nat} {zs:List Int} (h:zs.length=i*5∧allFok zs=true):(toldS w v ys i zs).length=(i+1)*5∧allFok (toldS w v ys i zs)=true:=by
 refine⟨by simp[toldS,h.1];omega,allFok_app h.2 ?_⟩
 simp only[allFok,List.all_cons,List.all_nil,allFok_get hy,valL_fok,Bool.and_self]
theorem toldL_ok {w v ys:List Int} (hy:allFok ys=true) (r:Nat):(toldL w v ys r).length=r*5∧allFok (toldL w v ys r)=true:=
 runN_inv0 (fun i zs=>zs.length=i*5∧allFok zs=true) r [] ⟨rfl,rfl⟩ fun k b _ h=>toldS_ok hy h
theorem b139_02:bodyAt 2 (bodyAt 0 (codeOf f139))=bodyAt 2 (codeOf f139):=by kernel_rfl
theorem b139_46:bodyAt 6 (bodyAt 4 (codeOf f139))=bodyAt 6 (codeOf f139):=by kernel_rfl
theorem l139a (w v ys:List Int) (r:Nat) (hv:v.length≤8) (hs:allShard v=true) (hw:w.length=8) (hwf:allFok w=true) (hr:r≤8) (hy:ys.length=r*12) (hyf:allFok ys=true):
  Good Tryz.prog 0 (.block 0 (.loop (bodyAt 0 (codeOf f139)))) (I139a w v ys r 0 [] 0) fun e t=>e=.normal∧t=X139a (toldL w v ys r) r:=by
 refine(Good.count hT t20 hmix r (fun i zs=>zs.length=i*5∧allFok zs=true) (fun i zs=>I139a w v ys r i zs i) (fun zs=>X139a zs r) (toldS w v ys) (liveH f139 0) (liveB' f139 0)
  (fun i zs=>[(2,⟨liveH f139 2,I139b w v ys r i zs (rowK ys i) i 0 0,.normal,X139b w v ys r i zs (rowK ys i) i (valL w v (rowK ys i))⟩)])
  (fun i zs _ h=>LcOk.cons (by kernel_rfl) (by rw[b139_02];exact l139b w v ys r i zs (rowK ys i) i hv hs hw hwf rfl (rowK_fok hyf i)) LcOk.nil)
  (fun i zs hi h=>⟨toldS_ok hyf h, ?_⟩)
  (fun zs h=>⟨_,_,⟨_,_,r139a_2 w v ys r r zs r 0 [],by simp,by simp⟩⟩)) [] ⟨rfl,rfl⟩
 ·have e:=r139a_1 w v ys r i zs i (valL w v (rowK ys i))
  rw[wrap_small (by omega) (by omega),Int.toNat_natCast]at e
  refine⟨_,_,⟨_,_,e, ?_,by simp⟩⟩
  simp only[Bool.true_and,Bool.and_true,Bool.and_eq_true,decide_eq_true_eq]
  omega
theorem getD_set (l:List Int) (a b:Nat) (x d:Int):(l.set a x).getD b d=if a=b∧a<l.length then x else l.getD b d:=by
 rw[List.getD_eq_getElem?_getD,List.getElem?_set]
 by_cases h:a=b
 ·subst h
  by_cases h2:a<l.length
  ·simp[h2]
  ·simp[h2,List.getD_eq_getElem?_getD,List.getElem?_eq_none (Nat.le_of_not_lt h2)]
 ·simp[h,List.getD_eq_getElem?_getD]
theorem fgs {l:List Int} {a b:Nat} {x:Int} (hl: ∀b,fok (l.getD b 0)=true) (hx:fok x=true):fok ((l.set a x).getD b 0)=true:=by
 rw[getD_set];split
 ·exact hx
 ·exact hl b
theorem allFok_set {l:List Int} {a:Nat} {x:Int} (hl:allFok l=true) (hx:fok x=true):allFok (l.set a x)=true:=by
 simp only[allFok,List.all_eq_true]at hl⊢
 intro y hy
 rcases List.mem_or_eq_of_mem_set hy with h|h
 ·exact hl y h
 ·rw[h];exact hx
theorem elimR_ok {zs:List Int} (h:allFok zs=true) (i j:Nat) (at_:Int):allFok (elimR zs i at_ j)=true:=
 allFok_set (allFok_set (allFok_set (allFok_set h (fok_mod _)) (fok_mod _)) (fok_mod _)) (fok_mod _)
theorem elimS_ok {zs:List Int} (h:allFok zs=true) (i j:Nat) (at_:Int):allFok (elimS zs i at_ j)=true:=allFok_set (elimR_ok h i j at_) (fok_mod _)
theorem elimS_len (zs:List Int) (i j:Nat) (at_:Int):(elimS zs i at_ j).length=zs.length:=by simp[elimS,elimR,setR]
def elimT (i:Nat) (at_:Int) (j:Nat) (zs:List Int):List Int:=bif ((j:Int)!=(i:Int))&&(elC zs at_ j !=0)then elimS zs i at_ j else zs
def elimL (n i:Nat) (at_:Int) (zs:List Int):List Int:=runN (elimT i at_) n 0 zs
theorem elimT_ok {n:Nat} {i:Nat} {at_:Int} {j:Nat} {zs:List Int} (h:zs.length=n*5∧allFok zs=true):(elimT i at_ j zs).length=n*5∧allFok (elimT i at_ j zs)=true:=by
 unfold elimT
 cases ((j:Int)!=(i:Int))&&(elC zs at_ j !=0)
 ·exact h
 ·exact⟨by rw[cond_true,elimS_len];exact h.1,elimS_ok h.2 i j at_⟩
theorem elimL_ok {n:Nat} {i:Nat} {at_:Int} {zs:List Int} (h:zs.length=n*5∧allFok zs=true):(elimL n i at_ zs).length=n*5∧allFok (elimL n i at_ zs)=true:=
 runN_inv0 (fun _ zs=>zs.length=n*5∧allFok zs=true) n zs h fun k b _ h=>elimT_ok h
theorem l139d (n:Nat) (zs:List Int) (i:Nat) (at_:Int) (hn:n≤8) (hi:i<n) (ha:bet at_ 0 3=true) (hz:zs.length=n*5) (hf:allFok zs=true):
  Good Tryz.prog 0 (.block 6 (.loop (bodyAt 6 (codeOf f139)))) (I139d n zs i at_ 0) fun e t=>e=.normal∧t=X139d n (elimL n i at_ zs) i:=by
 have ha':=bet_iff.1 ha
 refine Good.count hT t20 hmix n (fun _ zs=>zs.length=n*5∧allFok zs=true) (fun j zs=>I139d n zs i at_ j) (fun zs=>X139d n zs i) (elimT i at_) (liveH f139 6) (liveB' f139 6)
  (fun _ _=>[]) (fun _ _ _ _=>LcOk.nil) (fun j zs hj h=>⟨elimT_ok h, ?_⟩) (fun zs h=>⟨_,_,⟨_,_,r139d_4 n zs i at_ n,by simp,by simp⟩⟩) zs ⟨hz,hf⟩
 obtain⟨h1,h2⟩:=h
 unfold elimT
 cases c1:((j:Int)!=(i:Int))with
 |false=>
  have e:=r139d_3 n zs i at_ j
  rw[wrap_small (by omega) (by omega),Int.toNat_natCast]at e
  refine⟨_,_,⟨_,_,e, ?_,by simp⟩⟩
  rw[c1]
  simp only[Bool.true_and,Bool.and_true,Bool.not_false,Bool.and_eq_true,decide_eq_true_eq]
  omega
 |true=>
  cases c2:(elC zs at_ j !=0)with
  |false=>
   have e:=r139d_2 n zs i at_ j
   rw[wrap_small (by omega) (by omega),Int.toNat_natCast]at e
   refine⟨_,_,⟨_,_,e, ?_,by simp⟩⟩
   unfold elC at c2
   rw[c1,c2]
   simp only[Bool.true_and,Bool.and_true,Bool.not_false,Bool.and_eq_true,decide_eq_true_eq,cond_true]
   omega
  |true=>
   have e:=r139d_1 n zs i at_ j
   rw[wrap_small (by omega) (by omega),Int.toNat_natCast,Int.toNat_natCast]at e
   refine⟨_,_,⟨_,_,e, ?_,by simp⟩⟩
   unfold elC at c2
   rw[c1,c2]
   simp (maxDischargeDepth:=12) only[allFok_get h2,fgs,fok_mod,implies_true,List.length_set,Bool.true_and,Bool.and_true,Bool.not_false,Bool.and_eq_true,decide_eq_true_eq,cond_true,true_and,and_true]
   omega
def redT (n i:Nat) (zs:List Int):List Int:=elimL n i (ld5 zs i) zs
def redL (n:Nat) (zs:List Int):List Int:=runN (redT n) n 0 zs
def redOkAt (n:Nat):Nat→Nat→List Int→Bool
 |0,_,_=>true
 |f+1,i,zs=>bet (ld5 zs i) 0 3&&redOkAt n f (i+1) (redT n i zs)
def redOk (n:Nat) (zs:List Int):Bool:=redOkAt n n 0 zs
theorem l139c (n:Nat) (zs:List Int) (hn:n≤8) (hz:zs.length=n*5) (hf:allFok zs=true) (hr:redOk n zs=true):
  Good Tryz.prog 0 (.block 4 (.loop (bodyAt 4 (codeOf f139)))) (I139c n zs 0) fun e t=>e=.normal∧t=X139c n (redL n zs):=by
 refine(Good.count hT t20 hmix n (fun i zs=>(zs.length=n*5∧allFok zs=true)∧redOkAt n (n-i) i zs=true) (fun i zs=>I139c n zs i) (fun zs=>X139c n zs) (redT n) (liveH f139 4) (liveB' f139 4)
  (fun i zs=>[(6,⟨liveH f139 6,I139d n zs i (ld5 zs i) 0,.normal,X139d n (redT n i zs) i⟩)]) (fun i zs hi h=> ?_) (fun i zs hi h=> ?_) (fun zs h=> ?_)) zs ⟨⟨hz,hf⟩,hr⟩
 ·obtain⟨h1,h2⟩:=h
  rw[show n-i=(n-(i+1))+1 from by omega]at h2
  simp only[redOkAt,Bool.and_eq_true]at h2
  exact LcOk.cons (by kernel_rfl) (by rw[b139_46];exact l139d n zs i (ld5 zs i) hn hi h2.1 h1.1 h1.2) LcOk.nil
 ·obtain⟨h1,h2⟩:=h
  rw[show n-i=(n-(i+1))+1 from by omega]at h2
  simp only[redOkAt,Bool.and_eq_true]at h2
  refine⟨⟨elimL_ok h1,h2.2⟩, ?_⟩
  have e:=r139c_1 n zs (redT n i zs) i
  rw[wrap_small (by omega) (by omega),Int.toNat_natCast]at e
  refine⟨_,_,⟨_,_,e, ?_,by simp⟩⟩
  simp only[Bool.true_and,Bool.and_true,Bool.and_eq_true,decide_eq_true_eq]
  omega
 ·have e:=r139c_2 n zs zs n []
  exact⟨_,_,⟨_,_,e,by simp,by simp⟩⟩
end Go.Proofs.YthapjdpkelihiaaGreat.Am
end
section
namespace Go.Proofs.YthapjdpkelihiaaGreat.Am
def outS (zs:List Int) (i:Nat) (out:List Int):List Int:=out.set (ld5 zs i).toNat (zs.getD (i*5+4) 0)
def outL (zs:List Int) (n:Nat):List Int:=runN (outS zs) n 0 [0,0,0,0]
def leadOk (zs:List Int) (n:Nat):Bool:=allK (fun i=>bet (ld5 zs i) 0 3) n
theorem outL_len (zs:List Int) (n:Nat):(outL zs n).length=4:=runN_inv0 (step:=outS zs) (fun _ o=>o.length=4) n [0,0,0,0] rfl fun k b _ h=>by simp[outS,h]
theorem outL_fok {zs:List Int} (h:allFok zs=true) (n:Nat):allFok (outL zs n)=true:=runN_inv0 (step:=outS zs) (fun _ o=>allFok o=true) n [0,0,0,0] rfl fun k b _ hb=>allFok_set hb (allFok_get h _)
theorem l139e (n:Nat) (zs:List Int) (hn:n≤8) (hz:zs.length=n*5) (hl:leadOk zs n=true):
  Good Tryz.prog 0 (.block 8 (.loop (bodyAt 8 (codeOf f139)))) (I139e n zs [0,0,0,0] 0) fun e t=>e=.normal∧t=X139e (outL zs n):=by
 refine Good.count hT t20 hmix n (fun _ o=>o.length=4) (fun i o=>I139e n zs o i) (fun o=>X139e o) (outS zs) (liveH f139 8) (liveB' f139 8)
  (fun _ _=>[]) (fun _ _ _ _=>LcOk.nil) (fun i o hi h=>⟨by simp[outS,h], ?_⟩) (fun o h=>⟨_,_,⟨_,_,r139e_2 n zs o n,by simp,by simp⟩⟩) [0,0,0,0] rfl
 have hb:=bet_iff.1 (allK_spec hl i hi)
 have e:=r139e_1 n zs o i
 rw[wrap_small (by omega) (by omega),Int.toNat_natCast]at e
 refine⟨_,_,⟨_,_,e, ?_,by simp⟩⟩
 simp only[Bool.true_and,Bool.and_true,Bool.and_eq_true,decide_eq_true_eq]
 omega
def spK (k:Int) (v:List Int):List Int×List Int:=spanL (rowsL k v) v.length
def tolK (k:Int) (w v:List Int):List Int:=toldL w v (spK k v).1 (spK k v).2.length
def redK (k:Int) (w v:List Int):List Int:=redL (spK k v).2.length (tolK k w v)
def solL (k:Int) (w v:List Int):List Int:=outL (redK k w v) (spK k v).2.length
def solOk (k:Int) (w v:List Int):Bool:=redOk (spK k v).2.length (tolK k w v)&&leadOk (redK k w v) (spK k v).2.length
def cells4 (l:List Int):List Cell:=[.int .i64 (l.getD 0 0),.int .i64 (l.getD 1 0),.int .i64 (l.getD 2 0),.int .i64 (l.getD 3 0)]
noncomputable def L139 (k:Int) (w v:List Int):List (Nat×LC):=
  [(0,⟨liveH f139 0,I139a w v (spK k v).1 (spK k v).2.length 0 [] 0,.normal,X139a (tolK k w v) (spK k v).2.length⟩),
   (4,⟨liveH f139 4,I139c (spK k v).2.length (tolK k w v) 0,.normal,X139c (spK k v).2.length (redK k w v)⟩),
   (8,⟨liveH f139 8,I139e (spK k v).2.length (redK k w v) [0,0,0,0] 0,.normal,X139e (solL k w v)⟩)]
theorem x139_1 (k:Int) (w v:List Int):evalF tt (ctOf T20) (L139 k w v) 100 f139 [.c (.int .i64 k),.c (.view none (.ints .i64 w) w.length 1 none),.c (.view none (.ints .i64 v) v.length 1 none)] [] []=
  some ⟨.agg [.int .i64 ((solL k w v).getD 0 0),.int .i64 ((solL k w v).getD 1 0),.int .i64 ((solL k w v).getD 2 0),.int .i64 ((solL k w v).getD 3 0)],[],(decide (v.length≤274877906944)&&(bet k 1 2&&(allShard v&&(decide (v.length*4=(rowsL k v).length)&&(decide (v.length≤8)&&(allFok (rowsL k v)&&((decide (4≤(solL k w v).length))&&true))))))),[I139a w v (spK k v).1 (spK k v).2.length 0 [] 0=I139a w v (spK k v).1 (spK k v).2.length 0 [] 0,I139c (spK k v).2.length (tolK k w v) 0=I139c (spK k v).2.length (tolK k w v) 0,I139e (spK k v).2.length (redK k w v) [0,0,0,0] 0=I139e (spK k v).2.length (redK k w v) [0,0,0,0] 0]⟩:=by kernel_rfl
def FFsolve:Model:=fun args h=>
 match args,h with
 |[.c (.int .i64 k),.c (.view _ (.ints .i64 w) n 1 _),.c (.view _ (.ints .i64 v) n2 1 _)],[]=>
  some (.agg (cells4 (solL k w v)),[],[decide (v.length≤8),bet k 1 2,allShard v,decide (w.length=8),allFok w,solOk k w v])
 |_,_=>none
theorem spanS_inv (n:Nat) (xs:List Int): ∀(f i:Nat) (s:List Int×List Int),(s.1.length=s.2.length*12∧s.2.length≤i∧(allFok xs=true→allFok s.1=true))→
  (spanAt xs f i s).1.length=(spanAt xs f i s).2.length*12∧(spanAt xs f i s).2.length≤i+f∧(allFok xs=true→allFok (spanAt xs f i s).1=true)
 |0,i,s,h=>h
 |f+1,i,s,h=>by
  simp only[spanAt]
  have:=spanS_inv n xs f (i+1) (bif decide (ld4 (KK xs s.1 s.2.length i)<0)then s else(s.1++oneK (KK xs s.1 s.2.length i),s.2++[(i:Int)])) ?_
  ·rw[show i+(f+1)=i+1+f from by omega];exact this
  ·obtain⟨h1,h2,h3⟩:=h
   cases decide (ld4 (KK xs s.1 s.2.length i)<0)
   ·refine⟨by simp[oneK_len,h1];omega,by simp;omega,fun hx=>allFok_app (h3 hx) (oneK_fok _)⟩
   ·exact⟨h1,by rw[cond_true];omega,h3⟩
theorem spK_inv {k:Int} {v:List Int} (hk:bet k 1 2=true) (hv:allShard v=true):(spK k v).1.length=(spK k v).2.length*12∧(spK k v).2.length≤v.length∧allFok (spK k v).1=true:=by
 have:=spanS_inv v.length (rowsL k v) v.length 0 ([],[]) ⟨rfl,by simp,fun _=>rfl⟩
 exact⟨this.1,by have:=this.2.1;unfold spK spanL;omega,this.2.2 (rowsL_fok hk hv)⟩
theorem m139:ModelN Tryz.prog 152 FFsolve:=by
 intro args h res h' o hnorm he ho
 unfold FFsolve at he
 split at he
 case h_2=>cases he
 rename_i k nl w n cap nl2 v n2 cap2
 simp only[Option.some.injEq,Prod.mk.injEq]at he
 obtain⟨rfl,rfl,rfl⟩:=he
 simp only[List.mem_cons,List.not_mem_nil,or_false,forall_eq_or_imp,forall_eq,decide_eq_true_eq]at ho
 obtain⟨o1,o2,o3,o4,o5,o6⟩:=ho
 simp only[normA,AV.norm,normL,Cell.norm,Con.size,List.cons.injEq,AV.c.injEq,AV.agg.injEq,Cell.view.injEq,nlen_one,true_and,and_true]at hnorm
 obtain⟨⟨rfl,rfl,rfl⟩,rfl,rfl,rfl⟩:=hnorm
 obtain⟨s1,s2,s3⟩:=spK_inv o2 o3
 simp only[solOk,Bool.and_eq_true]at o6
 have t1:=toldL_ok (w:=w) (v:=v) s3 (spK k v).2.length
 have t2:(redK k w v).length=(spK k v).2.length*5∧allFok (redK k w v)=true:=runN_inv0 (step:=redT (spK k v).2.length) (fun _ zs=>zs.length=(spK k v).2.length*5∧allFok zs=true) _ _ t1 fun i zs _ h=>elimL_ok h
 refine meets_of t20 (fn:=f139) (by kernel_rfl) (by kernel_rfl) (x139_1 k w v) (by simp[o1,o2,o3,rowsL_fok,rowsL_len,solL,outL_len];omega) (by simp)
  (fun cc hc=>LcOk.cons (c:=cc) (by cases hc;kernel_rfl) (by cases hc;exact l139a w v (spK k v).1 (spK k v).2.length o1 o3 o4 o5 (by omega) s1 s3)
   (LcOk.cons (by cases hc;kernel_rfl) (by cases hc;exact l139c _ _ (by omega) t1.1 t1.2 o6.1) (LcOk.cons (by cases hc;kernel_rfl) (by cases hc;exact l139e _ _ (by omega) t2.1 o6.2) LcOk.nil)))
end Go.Proofs.YthapjdpkelihiaaGreat.Am
end
section
namespace Go.Proofs.YthapjdpkelihiaaGreat.Am
def T21:List Entry:=[⟨152,[],nm FFsolve⟩]++T20
theorem e21:EntriesOk Tryz.prog T21:=by
 refine EntriesOk.append ?_ e20
 intro e he
 simp only[List.mem_cons,List.not_mem_nil,or_false]at he
 subst he;exact m139.ok
theorem t21:CtOk Tryz.prog (ctOf T21):=ctOf_ok e21
noncomputable abbrev f121:=Tryz.f135
noncomputable def I121 (k:Int) (w v d:List Int) (i:Int):St:=
 stOf f121.ntmps [(0,.c (.int .i64 k)),(1,.c (.view none (.ints .i64 w) w.length 1 none)),(7,.c (.ptr 0 0 0 0)),(14,.c (.view none (.ints .i64 v) v.length 1 none)),(15,.c (.int .i64 v.length)),(16,.c (.int .i64 i))]
  [.live (.ints .i64 [d.getD 0 0,d.getD 1 0,d.getD 2 0,d.getD 3 0])]
noncomputable def X121:St:=stOf f121.ntmps [] []
noncomputable def Y121:St:=stOf f121.ntmps [(6,.c (.bool false))] []
theorem r121_1 (k:Int) (w v d:List Int) (i:Int):roundR 0 (liveH f121 0) (liveB' f121 0) (evalC tt (ctOf T21) ([]) 0 100 (bodyAt 0 (codeOf f121)) (I121 k w v d i) [(0,true),(0,true)])=
  some (.ret,(decide (i<(↑v.length:Int))&&(decide (0≤i)&&(decide (i<(↑v.length:Int))&&(decide (i.toNat<v.length)&&(bet k 1 2&&(bet (v.getD i.toNat 0) 0 7&&(fok ((rowL k (v.getD i.toNat 0)).getD 0 0)&&(fok (d.getD 0 0)&&(fok ((rowL k (v.getD i.toNat 0)).getD 1 0)&&(fok (d.getD 1 0)&&(fok ((rowL k (v.getD i.toNat 0)).getD 2 0)&&(fok (d.getD 2 0)&&(fok ((rowL k (v.getD i.toNat 0)).getD 3 0)&&(fok (d.getD 3 0)&&(decide (0≤v.getD i.toNat 0)&&(decide (v.getD i.toNat 0<(↑w.length:Int))&&(decide ((v.getD i.toNat 0).toNat<w.length)&&((dot4 ((rowL k (v.getD i.toNat 0)).getD 0 0) ((rowL k (v.getD i.toNat 0)).getD 1 0) ((rowL k (v.getD i.toNat 0)).getD 2 0) ((rowL k (v.getD i.toNat 0)).getD 3 0) (d.getD 0 0) (d.getD 1 0) (d.getD 2 0) (d.getD 3 0)!=w.getD (v.getD i.toNat 0).toNat 0)&&true)))))))))))))))))),[],Y121):=by kernel_rfl
theorem r121_2 (k:Int) (w v d:List Int) (i:Int):roundR 0 (liveH f121 0) (liveB' f121 0) (evalC tt (ctOf T21) ([]) 0 100 (bodyAt 0 (codeOf f121)) (I121 k w v d i) [(0,true),(0,false)])=
  some (.normal,(decide (i<(↑v.length:Int))&&(decide (0≤i)&&(decide (i<(↑v.length:Int))&&(decide (i.toNat<v.length)&&(bet k 1 2&&(bet (v.getD i.toNat 0) 0 7&&(fok ((rowL k (v.getD i.toNat 0)).getD 0 0)&&(fok (d.getD 0 0)&&(fok ((rowL k (v.getD i.toNat 0)).getD 1 0)&&(fok (d.getD 1 0)&&(fok ((rowL k (v.getD i.toNat 0)).getD 2 0)&&(fok (d.getD 2 0)&&(fok ((rowL k (v.getD i.toNat 0)).getD 3 0)&&(fok (d.getD 3 0)&&(decide (0≤v.getD i.toNat 0)&&(decide (v.getD i.toNat 0<(↑w.length:Int))&&(decide ((v.getD i.toNat 0).toNat<w.length)&&((!dot4 ((rowL k (v.getD i.toNat 0)).getD 0 0) ((rowL k (v.getD i.toNat 0)).getD 1 0) ((rowL k (v.getD i.toNat 0)).getD 2 0) ((rowL k (v.getD i.toNat 0)).getD 3 0) (d.getD 0 0) (d.getD 1 0) (d.getD 2 0) (d.getD 3 0)!=w.getD (v.getD i.toNat 0).toNat 0)&&true)))))))))))))))))),[],I121 k w v d (IntKind.i64.wrap (i+1))):=by kernel_rfl
theorem r121_3 (k:Int) (w v d:List Int) (i:Int):roundR 0 (liveH f121 0) (liveB' f121 0) (evalC tt (ctOf T21) ([]) 0 100 (bodyAt 0 (codeOf f121)) (I121 k w v d i) [(0,false)])=
  some (.exit 0,((!decide (i<(↑v.length:Int)))&&true),[],X121):=by kernel_rfl
def fitE (k:Int) (w v d:List Int) (i:Nat):Bool:= !(encE k d (v.getD i 0)!=w.getD (v.getD i 0).toNat 0)
def fitsL (k:Int) (w v:List Int):Bool:=allR (fitE k w v (solL k w v)) v.length 0
theorem rowL_fok {k a:Int} (hk:bet k 1 2=true) (ha:bet a 0 7=true):allFok (rowL k a)=true:=by
 refine of16 (q:=fun k a=>allFok (rowL k a)=true) (fun i hi=> ?_) hk ha
 have all:allK (fun k=>allFok (rowL ((k/8:Nat)+1:Int) (k%8:Nat))) 16=true:=by kernel_rfl
 exact allK_spec all i hi
theorem encE_eq (k:Int) (d:List Int) (a:Int):dot4 ((rowL k a).getD 0 0) ((rowL k a).getD 1 0) ((rowL k a).getD 2 0) ((rowL k a).getD 3 0) (d.getD 0 0) (d.getD 1 0) (d.getD 2 0) (d.getD 3 0)=encE k d a:=rfl
theorem l121 (k:Int) (w v d:List Int) (hk:bet k 1 2=true) (hv:v.length≤8) (hs:allShard v=true) (hw:w.length=8) (hd:allFok d=true):
  Good Tryz.prog 0 (.block 0 (.loop (bodyAt 0 (codeOf f121)))) (I121 k w v d 0) fun e t=>e=(bif allR (fitE k w v d) v.length 0 then .normal else .ret)∧t=bif allR (fitE k w v d) v.length 0 then X121 else Y121:=by
 have common: ∀i,i<v.length→bet (v.getD i 0) 0 7=true∧allFok (rowL k (v.getD i 0))=true:=fun i hi=>⟨allShard_get hs hi,rowL_fok hk (allShard_get hs hi)⟩
 refine Good.all hT t21 hmix v.length (fitE k w v d) (fun i=>I121 k w v d i) X121 Y121 .ret (.inr rfl) (liveH f121 0) (liveB' f121 0) (fun _=>[]) (fun _ _=>LcOk.nil) (fun i hi h=> ?_) (fun i hi h=> ?_)
  ⟨_,_,⟨_,_,r121_3 k w v d v.length,by simp,by simp⟩⟩
 ·obtain⟨h1,h2⟩:=common i hi
  have h3:=bet_iff.1 h1
  have e:=r121_2 k w v d i
  simp only[encE_eq]at e
  rw[wrap_small (by omega) (by omega),Int.toNat_natCast]at e
  refine⟨_,_,⟨_,_,e, ?_,by simp⟩⟩
  unfold fitE at h
  simp only[h,hk,h1,allFok_get h2,allFok_get hd,Bool.true_and,Bool.and_true,Bool.and_eq_true,decide_eq_true_eq]
  omega
 ·obtain⟨h1,h2⟩:=common i hi
  have h3:=bet_iff.1 h1
  have e:=r121_1 k w v d i
  simp only[encE_eq]at e
  rw[Int.toNat_natCast]at e
  refine⟨_,_,⟨_,_,e, ?_,by simp⟩⟩
  unfold fitE at h
  rw[Bool.not_eq_false']at h
  simp only[h,hk,h1,allFok_get h2,allFok_get hd,Bool.true_and,Bool.and_true,Bool.and_eq_true,decide_eq_true_eq]
  omega
theorem x121_1 (k:Int) (w v:List Int):evalF tt (ctOf T21) ([(0,⟨liveH f121 0,I121 k w v (solL k w v) 0,.normal,X121⟩)]) 100 f121 [.c (.int .i64 k),.c (.view none (.ints .i64 w) w.length 1 none),.c (.view none (.ints .i64 v) v.length 1 none)] [] []=
  some ⟨.c (.bool true),[],(decide (v.length≤8)&&(bet k 1 2&&(allShard v&&(decide (w.length=8)&&(allFok w&&((solOk k w v)&&true)))))),[I121 k w v (solL k w v) 0=I121 k w v (solL k w v) 0]⟩:=by kernel_rfl
theorem x121r_1 (k:Int) (w v:List Int):evalF tt (ctOf T21) ([(0,⟨liveH f121 0,I121 k w v (solL k w v) 0,.ret,Y121⟩)]) 100 f121 [.c (.int .i64 k),.c (.view none (.ints .i64 w) w.length 1 none),.c (.view none (.ints .i64 v) v.length 1 none)] [] []=
  some ⟨.c (.bool false),[],(decide (v.length≤8)&&(bet k 1 2&&(allShard v&&(decide (w.length=8)&&(allFok w&&((solOk k w v)&&true)))))),[I121 k w v (solL k w v) 0=I121 k w v (solL k w v) 0]⟩:=by kernel_rfl
def FFfits:Model:=fun args h=>
 match args,h with
 |[.c (.int .i64 k),.c (.view _ (.ints .i64 w) n 1 _),.c (.view _ (.ints .i64 v) n2 1 _)],[]=>
  some (.c (.bool (fitsL k w v)),[],[decide (v.length≤8),bet k 1 2,allShard v,decide (w.length=8),allFok w,solOk k w v])
 |_,_=>none
theorem solL_fok {k:Int} {w v:List Int} (hk:bet k 1 2=true) (hv:allShard v=true):allFok (solL k w v)=true:=by
 obtain⟨s1,s2,s3⟩:=spK_inv hk hv
 have t1:=toldL_ok (w:=w) (v:=v) s3 (spK k v).2.length
 have t2:(redK k w v).length=(spK k v).2.length*5∧allFok (redK k w v)=true:=runN_inv0 (step:=redT (spK k v).2.length) (fun _ zs=>zs.length=(spK k v).2.length*5∧allFok zs=true) _ _ t1 fun i zs _ h=>elimL_ok h
 exact outL_fok t2.2 _
theorem m121:ModelN Tryz.prog 135 FFfits:=by
 intro args h res h' o hnorm he ho
 unfold FFfits at he
 split at he
 case h_2=>cases he
 rename_i k nl w n cap nl2 v n2 cap2
 simp only[Option.some.injEq,Prod.mk.injEq]at he
 obtain⟨rfl,rfl,rfl⟩:=he
 simp only[List.mem_cons,List.not_mem_nil,or_false,forall_eq_or_imp,forall_eq,decide_eq_true_eq]at ho
 obtain⟨o1,o2,o3,o4,o5,o6⟩:=ho
 simp only[normA,AV.norm,normL,Cell.norm,Con.size,List.cons.injEq,AV.c.injEq,AV.agg.injEq,Cell.view.injEq,nlen_one,true_and,and_true]at hnorm
 obtain⟨⟨rfl,rfl,rfl⟩,rfl,rfl,rfl⟩:=hnorm
 have g:=l121 k w v (solL k w v) o2 o1 o3 o4 (solL_fok o2 o3)
 unfold fitsL
 cases hx:allR (fitE k w v (solL k w v)) v.length 0 with
 |true=>
  rw[hx]at g
  exact meets_of t21 (fn:=f121) (lc:=[(0,⟨liveH f121 0,I121 k w v (solL k w v) 0,.normal,X121⟩)]) (fuel:=100) (p:=[]) (o:=⟨_,_,_,[I121 k w v (solL k w v) 0=I121 k w v (solL k w v) 0]⟩)
   (by kernel_rfl) (by kernel_rfl) (x121_1 k w v) (by simp[o1,o2,o3,o4,o5,o6]) (by simp) (fun cc hc=>LcOk.cons (c:=cc) (by cases hc;kernel_rfl) (by cases hc;exact g) LcOk.nil)
 |false=>
  rw[hx]at g
  exact meets_of t21 (fn:=f121) (lc:=[(0,⟨liveH f121 0,I121 k w v (solL k w v) 0,.ret,Y121⟩)]) (fuel:=100) (p:=[]) (o:=⟨_,_,_,[I121 k w v (solL k w v) 0=I121 k w v (solL k w v) 0]⟩)
   (by kernel_rfl) (by kernel_rfl) (x121r_1 k w v) (by simp[o1,o2,o3,o4,o5,o6]) (by simp) (fun cc hc=>LcOk.cons (c:=cc) (by cases hc;kernel_rfl) (by cases hc;exact g) LcOk.nil)
end Go.Proofs.YthapjdpkelihiaaGreat.Am
end
section
namespace Go.Proofs.YthapjdpkelihiaaGreat.Am
theorem CR0.nilCases {w:World} {L:Nat→Prop} {ρ:Rho} {c:Con} {len es:Nat} {cap:Option Nat} {v:Value} (h:CR0 w L ρ (.view none c len es cap) v):
  CR0 w L ρ (.view (some false) c len es cap) v∨(c.size=0∧CR0 w L ρ (.view (some true) c len es cap) v):=by
 cases h with
 |view nl c len es cap b base k u hl hc hu hz hk hcap hnl=>exact .inl (.view _ c len es cap b base k u hl hc hu hz hk hcap fun x h=>by injection h with h;exact h.symm)
 |viewNone nl c es cap a k hz hcap hnl hk=>
  cases a with
  |none=>exact .inr ⟨hz,.viewNone _ c es cap none k hz hcap (fun x h=>by injection h with h;exact h.symm) hk⟩
  |some a=>exact .inl (.viewNone _ c es cap (some a) k hz hcap (fun x h=>by injection h with h;exact h.symm) hk)
theorem Meets.nilCases {P:Program} {f:FuncId} {c:Con} {len es:Nat} {cap:Option Nat} {h h':List Slot} {res:AV} (h1:Meets P f [.c (.view (some false) c len es cap)] h res h')
  (h2:c.size=0→Meets P f [.c (.view (some true) c len es cap)] h res h'):Meets P f [.c (.view none c len es cap)] h res h':=by
 refine⟨h1.1,fun {X w0 ρ0} m vs hl hv=> ?_⟩
 have h0:=hv 0 (by simp)
 simp only[List.getD_cons_zero]at h0
 cases h0 with
 |c x v hx=>
  rcases CR0.nilCases hx with hx|⟨hz,hx⟩
  ·exact h1.2 m vs hl fun q hq=>by
    match q,hq with
    |0,_=>exact .c _ _ hx
  ·exact(h2 hz).2 m vs hl fun q hq=>by
    match q,hq with
    |0,_=>exact .c _ _ hx
theorem Mem.addNil {X:Nat→Prop} {w0 w:World} {M:Nat→Prop} {h:List Slot} {ρ:Rho} (m:Mem X w0 M h ρ w) {c0:Con} (hc:c0.size=0):
  ρ h.length=.unborn∧Mem X w0 M (h++[.live c0]) (upd ρ h.length .nil) w:=by
 have hun:ρ h.length=.unborn:=by
  have hs:=m.slot h.length
  rw[Heap.get_ge (Nat.le_refl _)]at hs
  cases hx:ρ h.length<;>rw[hx]at hs<;>first|rfl|exact hs.elim
 have mo:=new_mono w hun
 refine⟨hun,⟨fun id=> ?_,fun i j b hi hj=> ?_,fun id b hb=> ?_,m.os,m.tape,m.output,m.size,m.keep,m.foreign⟩⟩
 ·by_cases e:id=h.length
  ·subst e
   have:Heap.get (h++[.live c0]) h.length=.live c0:=by
    unfold Heap.get
    rw[List.getD_eq_getElem?_getD,List.getElem?_append_right (by omega)];simp
   rw[this,upd_same];exact hc
  ·have hg:Heap.get (h++[.live c0]) id=Heap.get h id:=by
    unfold Heap.get
    rw[List.getD_eq_getElem?_getD,List.getD_eq_getElem?_getD,List.getElem?_append]
    split
    ·rfl
    ·rw[List.getElem?_eq_none (l:=h) (by omega),List.getElem?_eq_none (by simp;omega)]
   rw[hg,upd_ne _ _ e]
   exact(m.slot id).mono mo fun _ _=>rfl
 ·by_cases e:i=h.length
  ·subst e;rw[upd_same]at hi;cases hi
  ·by_cases e':j=h.length
   ·subst e';rw[upd_same]at hj;cases hj
   ·rw[upd_ne _ _ e]at hi;rw[upd_ne _ _ e']at hj
    exact m.inj i j b hi hj
 ·by_cases e:id=h.length
  ·subst e;rw[upd_same]at hb;cases hb
  ·rw[upd_ne _ _ e]at hb;exact m.own id b hb
theorem Meets.nils {P:Program} {f:FuncId} {args:List AV} {h h':List Slot} {es:Nat} {c0:Con} (hm:Meets P f args h (.c .nils) h') (hc:c0.size=0):
  Meets P f args h (.c (.sl h'.length 0 0 es none)) (h'++[.live c0]):=by
 refine⟨hm.1,fun {X w0 ρ0} m vs hl hv=> ?_⟩
 refine Calls.mono (hm.2 m vs hl hv) ?_
 rintro e w' ⟨v,ρ',rfl,mb,im,m',hr⟩
 obtain⟨hun,m2⟩:=m'.addNil hc
 have mo:=new_mono w' hun
 refine⟨v,_,rfl,mb.trans mo.toB,im.trans mo.ids,m2, ?_⟩
 cases hr with
 |c x v hx=>exact .c _ _ (nil_cell hx)
end Go.Proofs.YthapjdpkelihiaaGreat.Am
end
section
namespace Go.Proofs.YthapjdpkelihiaaGreat.Am
noncomputable def T22:List Entry:=[⟨135,[],nm FFfits⟩]++T21
theorem e22:EntriesOk Tryz.prog T22:=by
 refine EntriesOk.append ?_ e21
 intro e he
 simp only[List.mem_cons,List.not_mem_nil,or_false]at he
 subst he;exact m121.ok
theorem t22:CtOk Tryz.prog (ctOf T22):=ctOf_ok e22
theorem x110_1 (k:Int) (w v:List Int):evalF tt (ctOf T22) ([]) 100 Tryz.f111 [.c (.int .i64 k),.c (.view none (.ints .i64 w) w.length 1 none),.c (.view none (.ints .i64 v) v.length 1 none)] [] [(0,true)]=
  some ⟨.tup [.c .nils,.c (.bool false)],[],(decide (v.length≤8)&&(bet k 1 2&&(allShard v&&(!bearsL k v&&(!bearsL k v&&(!bearsL k v&&(!bearsL k v&&(!bearsL k v&&((!bearsL k v)&&true))))))))),[]⟩:=by kernel_rfl
theorem x110_2 (k:Int) (w v:List Int):evalF tt (ctOf T22) ([]) 100 Tryz.f111 [.c (.int .i64 k),.c (.view none (.ints .i64 w) w.length 1 none),.c (.view none (.ints .i64 v) v.length 1 none)] [] [(0,false),(0,true)]=
  some ⟨.tup [.c .nils,.c (.bool false)],[],(decide (v.length≤8)&&(bet k 1 2&&(allShard v&&(!!bearsL k v&&(!!bearsL k v&&(!!bearsL k v&&(!!bearsL k v&&(decide (v.length≤8)&&(bet k 1 2&&(allShard v&&(decide (w.length=8)&&(allFok w&&(solOk k w v&&(!!bearsL k v&&((bif !bearsL k v then true else !fitsL k w v)&&true))))))))))))))),[]⟩:=by kernel_rfl
theorem x110_3 (k:Int) (w v:List Int):evalF tt (ctOf T22) ([]) 100 Tryz.f111 [.c (.int .i64 k),.c (.view none (.ints .i64 w) w.length 1 none),.c (.view none (.ints .i64 v) v.length 1 none)] [] [(0,false),(0,false)]=
  some ⟨.tup [.c (.sl 0 0 4 1 none),.c (.bool true)],[.live (.ints .i64 [(solL k w v).getD 0 0,(solL k w v).getD 1 0,(solL k w v).getD 2 0,(solL k w v).getD 3 0])],(decide (v.length≤8)&&(bet k 1 2&&(allShard v&&(!!bearsL k v&&(!!bearsL k v&&(!!bearsL k v&&(!!bearsL k v&&(decide (v.length≤8)&&(bet k 1 2&&(allShard v&&(decide (w.length=8)&&(allFok w&&(solOk k w v&&(!!bearsL k v&&((!bif !bearsL k v then true else !fitsL k w v)&&(decide (v.length≤8)&&(bet k 1 2&&(allShard v&&(decide (w.length=8)&&(allFok w&&((solOk k w v)&&true))))))))))))))))))))),[]⟩:=by kernel_rfl
def FFreadY:Model:=fun args h=>
 match args,h with
 |[.c (.int .i64 k),.c (.view _ (.ints .i64 w) n 1 _),.c (.view _ (.ints .i64 v) n2 1 _)],[]=>
  some (.tup [.c (.sl 0 0 4 1 none),.c (.bool true)],[.live (.ints .i64 [(solL k w v).getD 0 0,(solL k w v).getD 1 0,(solL k w v).getD 2 0,(solL k w v).getD 3 0])],[decide (v.length≤8),bet k 1 2,allShard v,decide (w.length=8),allFok w,solOk k w v,bearsL k v,fitsL k w v])
 |_,_=>none
theorem m110:ModelN Tryz.prog 111 FFreadY:=by
 intro args h res h' o hnorm he ho
 unfold FFreadY at he
 split at he
 case h_2=>cases he
 rename_i k nl w n cap nl2 v n2 cap2
 simp only[Option.some.injEq,Prod.mk.injEq]at he
 obtain⟨rfl,rfl,rfl⟩:=he
 simp only[List.mem_cons,List.not_mem_nil,or_false,forall_eq_or_imp,forall_eq,decide_eq_true_eq]at ho
 obtain⟨o1,o2,o3,o4,o5,o6,o7,o8⟩:=ho
 simp only[normA,AV.norm,normL,Cell.norm,Con.size,List.cons.injEq,AV.c.injEq,AV.agg.injEq,Cell.view.injEq,nlen_one,true_and,and_true]at hnorm
 obtain⟨⟨rfl,rfl,rfl⟩,rfl,rfl,rfl⟩:=hnorm
 exact meets_of t22 (by kernel_rfl) (by kernel_rfl) (x110_3 k w v) (by simp[o1,o2,o3,o4,o5,o6,o7,o8]) (by simp) (fun c _=>LcOk.nil)
def FFreadN:Model:=fun args h=>
 match args,h with
 |[.c (.int .i64 k),.c (.view _ (.ints .i64 w) n 1 _),.c (.view _ (.ints .i64 v) n2 1 _)],[]=>
  some (.tup [.c .nils,.c (.bool false)],[],[decide (v.length≤8),bet k 1 2,allShard v,decide (w.length=8),allFok w,solOk k w v, !(bearsL k v&&fitsL k w v)])
 |_,_=>none
theorem m110n:ModelN Tryz.prog 111 FFreadN:=by
 intro args h res h' o hnorm he ho
 unfold FFreadN at he
 split at he
 case h_2=>cases he
 rename_i k nl w n cap nl2 v n2 cap2
 simp only[Option.some.injEq,Prod.mk.injEq]at he
 obtain⟨rfl,rfl,rfl⟩:=he
 simp only[List.mem_cons,List.not_mem_nil,or_false,forall_eq_or_imp,forall_eq,decide_eq_true_eq]at ho
 obtain⟨o1,o2,o3,o4,o5,o6,o7⟩:=ho
 simp only[normA,AV.norm,normL,Cell.norm,Con.size,List.cons.injEq,AV.c.injEq,AV.agg.injEq,Cell.view.injEq,nlen_one,true_and,and_true]at hnorm
 obtain⟨⟨rfl,rfl,rfl⟩,rfl,rfl,rfl⟩:=hnorm
 cases hb:bearsL k v with
 |false=>exact meets_of t22 (by kernel_rfl) (by kernel_rfl) (x110_1 k w v) (by simp[o1,o2,o3,hb]) (by simp) (fun c _=>LcOk.nil)
 |true=>
  have hf:fitsL k w v=false:=by rw[hb]at o7;simpa using o7
  exact meets_of t22 (by kernel_rfl) (by kernel_rfl) (x110_2 k w v) (by simp[o1,o2,o3,o4,o5,o6,hb,hf]) (by simp) (fun c _=>LcOk.nil)
theorem x64f_1 (v:List Int):evalF tt (ctOf T22) ([]) 100 Tryz.f71 [.c (.view (some false) (.ints .i64 v) v.length 1 none)] [] []=
  some ⟨.c (.sl 0 0 (0+v.length) 1 none),[.live (.ints .i64 ([]++v))],((decide (0+v.length≤274877906944))&&true),[]⟩:=by kernel_rfl
theorem x64t_1 (v:List Int):evalF tt (ctOf T22) ([]) 100 Tryz.f71 [.c (.view (some true) (.ints .i64 v) v.length 1 none)] [] []=
  some ⟨.c .nils,[],true,[]⟩:=by kernel_rfl
def FFclone64:Model:=fun args h=>
 match args,h with
 |[.c (.view _ (.ints .i64 v) n 1 _)],[]=>
  some (.c (.sl 0 0 v.length 1 none),[.live (.ints .i64 v)],[decide (v.length≤274877906944)])
 |_,_=>none
theorem m64:ModelN Tryz.prog 71 FFclone64:=by
 intro args h res h' o hnorm he ho
 unfold FFclone64 at he
 split at he
 case h_2=>cases he
 rename_i nl v n cap
 simp only[Option.some.injEq,Prod.mk.injEq]at he
 obtain⟨rfl,rfl,rfl⟩:=he
 simp only[List.mem_cons,List.not_mem_nil,or_false,forall_eq_or_imp,forall_eq,decide_eq_true_eq]at ho
 have o1:=ho
 simp only[normA,AV.norm,normL,Cell.norm,Con.size,List.cons.injEq,AV.c.injEq,AV.agg.injEq,Cell.view.injEq,nlen_one,true_and,and_true]at hnorm
 obtain⟨rfl,rfl,rfl⟩:=hnorm
 refine Meets.nilCases ?_ fun hz=> ?_
 ·have e:=x64f_1 v
  simp only[Nat.zero_add]at e
  exact meets_of t22 (by kernel_rfl) (by kernel_rfl) e (by simp[o1]) (by simp) (fun c _=>LcOk.nil)
 ·have hv:v=[]:=List.eq_nil_of_length_eq_zero hz
  subst hv
  exact Meets.nils (c0:=.ints .i64 []) (meets_of t22 (by kernel_rfl) (by kernel_rfl) (x64t_1 []) (by simp) (by simp) (fun c _=>LcOk.nil)) rfl
theorem x131f_1 (v:List Bool):evalF tt (ctOf T22) ([]) 100 Tryz.f150 [.c (.view (some false) (.bools v) v.length 1 none)] [] []=
  some ⟨.c (.sl 0 0 (0+v.length) 1 none),[.live (.bools ([]++v))],((decide (0+v.length≤274877906944))&&true),[]⟩:=by kernel_rfl
theorem x131t_1 (v:List Bool):evalF tt (ctOf T22) ([]) 100 Tryz.f150 [.c (.view (some true) (.bools v) v.length 1 none)] [] []=
  some ⟨.c .nils,[],true,[]⟩:=by kernel_rfl
def FFclone131:Model:=fun args h=>
 match args,h with
 |[.c (.view _ (.bools v) n 1 _)],[]=>
  some (.c (.sl 0 0 v.length 1 none),[.live (.bools v)],[decide (v.length≤274877906944)])
 |_,_=>none
theorem m131:ModelN Tryz.prog 150 FFclone131:=by
 intro args h res h' o hnorm he ho
 unfold FFclone131 at he
 split at he
 case h_2=>cases he
 rename_i nl v n cap
 simp only[Option.some.injEq,Prod.mk.injEq]at he
 obtain⟨rfl,rfl,rfl⟩:=he
 simp only[List.mem_cons,List.not_mem_nil,or_false,forall_eq_or_imp,forall_eq,decide_eq_true_eq]at ho
 have o1:=ho
 simp only[normA,AV.norm,normL,Cell.norm,Con.size,List.cons.injEq,AV.c.injEq,AV.agg.injEq,Cell.view.injEq,nlen_one,true_and,and_true]at hnorm
 obtain⟨rfl,rfl,rfl⟩:=hnorm
 refine Meets.nilCases ?_ fun hz=> ?_
 ·have e:=x131f_1 v
  simp only[Nat.zero_add]at e
  exact meets_of t22 (by kernel_rfl) (by kernel_rfl) e (by simp[o1]) (by simp) (fun c _=>LcOk.nil)
 ·have hv:v=[]:=List.eq_nil_of_length_eq_zero hz
  subst hv
  exact Meets.nils (c0:=.bools []) (meets_of t22 (by kernel_rfl) (by kernel_rfl) (x131t_1 []) (by simp) (by simp) (fun c _=>LcOk.nil)) rfl
theorem clipI:ModelOk Tryz.prog 70 (inlM tt (ctOf T22) Tryz.f70 []):=inlM_ok hT t22 hmix [] (by kernel_rfl) (by kernel_rfl)
theorem clipB:ModelOk Tryz.prog 149 (inlM tt (ctOf T22) Tryz.f149 []):=inlM_ok hT t22 hmix [] (by kernel_rfl) (by kernel_rfl)
noncomputable def T23:List Entry:=[⟨71,[],nm FFclone64⟩,⟨150,[],nm FFclone131⟩,⟨70,[0],inlM tt (ctOf T22) Tryz.f70 []⟩,⟨149,[0],inlM tt (ctOf T22) Tryz.f149 []⟩]++T22
theorem e23:EntriesOk Tryz.prog T23:=by
 refine EntriesOk.append ?_ e22
 intro e he
 simp only[List.mem_cons,List.not_mem_nil,or_false]at he
 rcases he with rfl|rfl|rfl|rfl
 ·exact m64.ok
 ·exact m131.ok
 ·exact clipI
 ·exact clipB
theorem t23:CtOk Tryz.prog (ctOf T23):=ctOf_ok e23
theorem x70_1 (k:Int) (a b:List Int) (c:List Bool):evalF tt (ctOf T22) ([]) 100 Tryz.f81 [.agg [.int .i64 k,.view none (.ints .i64 a) a.length 1 none,.view none (.ints .i64 b) b.length 1 none,.view none (.bools c) c.length 1 none]] [] [(0,true),(0,true)]=
  some ⟨.c (.bool (bif bif (↑a.length:Int)==8 then(↑b.length:Int)==8 else false then(↑c.length:Int)==8 else false)),[],(((↑a.length:Int)==8)&&(((↑a.length:Int)==8)&&(((↑a.length:Int)==8)&&(((↑a.length:Int)==8)&&((bif (↑a.length:Int)==8 then(↑b.length:Int)==8 else false)&&((bif (↑a.length:Int)==8 then(↑b.length:Int)==8 else false)&&((bif (↑a.length:Int)==8 then(↑b.length:Int)==8 else false)&&((bif (↑a.length:Int)==8 then(↑b.length:Int)==8 else false)&&true)))))))),[]⟩:=by kernel_rfl
theorem x70_2 (k:Int) (a b:List Int) (c:List Bool):evalF tt (ctOf T22) ([]) 100 Tryz.f81 [.agg [.int .i64 k,.view none (.ints .i64 a) a.length 1 none,.view none (.ints .i64 b) b.length 1 none,.view none (.bools c) c.length 1 none]] [] [(0,true),(0,false)]=
  some ⟨.c (.bool false),[],(((↑a.length:Int)==8)&&(((↑a.length:Int)==8)&&(((↑a.length:Int)==8)&&(((↑a.length:Int)==8)&&((!bif (↑a.length:Int)==8 then(↑b.length:Int)==8 else false)&&((!bif (↑a.length:Int)==8 then(↑b.length:Int)==8 else false)&&((!bif (↑a.length:Int)==8 then(↑b.length:Int)==8 else false)&&((!bif (↑a.length:Int)==8 then(↑b.length:Int)==8 else false)&&((!bif (↑a.length:Int)==8 then(↑b.length:Int)==8 else false)&&true))))))))),[]⟩:=by kernel_rfl
theorem x70_3 (k:Int) (a b:List Int) (c:List Bool):evalF tt (ctOf T22) ([]) 100 Tryz.f81 [.agg [.int .i64 k,.view none (.ints .i64 a) a.length 1 none,.view none (.ints .i64 b) b.length 1 none,.view none (.bools c) c.length 1 none]] [] [(0,false)]=
  some ⟨.c (.bool false),[],((!(↑a.length:Int)==8)&&((!(↑a.length:Int)==8)&&((!(↑a.length:Int)==8)&&((!(↑a.length:Int)==8)&&((!(↑a.length:Int)==8)&&true))))),[]⟩:=by kernel_rfl
def shapedB (a b:List Int) (c:List Bool):Bool:=((a.length:Int)==8)&&((b.length:Int)==8)&&((c.length:Int)==8)
def FFshaped:Model:=fun args h=>
 match args,h with
 |[.agg [.int .i64 k,.view _ (.ints .i64 a) n1 1 _,.view _ (.ints .i64 b) n2 1 _,.view _ (.bools c) n3 1 _]],[]=>
  some (.c (.bool (shapedB a b c)),[],[])
 |_,_=>none
theorem m70:ModelN Tryz.prog 81 FFshaped:=by
 intro args h res h' o hnorm he ho
 unfold FFshaped at he
 split at he
 case h_2=>cases he
 rename_i k nl1 a n1 cap1 nl2 b n2 cap2 nl3 c n3 cap3
 simp only[Option.some.injEq,Prod.mk.injEq]at he
 obtain⟨rfl,rfl,rfl⟩:=he
 simp only[normA,AV.norm,normL,Cell.norm,Con.size,List.cons.injEq,AV.c.injEq,AV.agg.injEq,Cell.view.injEq,nlen_one,true_and,and_true]at hnorm
 obtain⟨⟨rfl,rfl,rfl⟩,⟨rfl,rfl,rfl⟩,rfl,rfl,rfl⟩:=hnorm
 unfold shapedB
 cases ha:(a.length:Int)==8 with
 |false=>exact meets_of t22 (by kernel_rfl) (by kernel_rfl) (x70_3 k a b c) (by simp[ha,-beq_eq_false_iff_ne]) (by simp) (fun c _=>LcOk.nil)
 |true=>
  cases hb:(b.length:Int)==8 with
  |false=>exact meets_of t22 (by kernel_rfl) (by kernel_rfl) (x70_2 k a b c) (by simp only[ha,hb];rfl) (by simp) (fun c _=>LcOk.nil)
  |true=>
   have e:=meets_of (f:=81) t22 (by kernel_rfl) (by kernel_rfl) (x70_1 k a b c) (by simp only[ha,hb];rfl) (by simp) (fun c _=>LcOk.nil)
   simp only[ha,hb,cond_true]at e
   exact e
theorem x99_1 (k:Int) (a b:List Int) (c:List Bool):evalF tt (ctOf T23) ([]) 100 Tryz.f110 [.agg [.int .i64 k,.view none (.ints .i64 a) a.length 1 none,.view none (.ints .i64 b) b.length 1 none,.view none (.bools c) c.length 1 none]] [] []=
  some ⟨.agg [.int .i64 k,.sl 0 0 (↑a.length:Int).toNat 1 none,.sl 1 0 (↑b.length:Int).toNat 1 none,.sl 2 0 (↑c.length:Int).toNat 1 none],[.live (.ints .i64 a),.live (.ints .i64 b),.live (.bools c)],(decide (a.length≤274877906944)&&((decide ((↑a.length:Int)≤(↑a.length:Int))&&(decide ((↑a.length:Int)≤(↑a.length:Int))&&true))&&(decide (b.length≤274877906944)&&((decide ((↑b.length:Int)≤(↑b.length:Int))&&(decide ((↑b.length:Int)≤(↑b.length:Int))&&true))&&(decide (c.length≤274877906944)&&((decide ((↑c.length:Int)≤(↑c.length:Int))&&(decide ((↑c.length:Int)≤(↑c.length:Int))&&true))&&true)))))),[]⟩:=by kernel_rfl
def FFcopied:Model:=fun args h=>
 match args,h with
 |[.agg [.int .i64 k,.view _ (.ints .i64 a) n1 1 _,.view _ (.ints .i64 b) n2 1 _,.view _ (.bools c) n3 1 _]],[]=>
  some (.agg [.int .i64 k,.sl 0 0 a.length 1 none,.sl 1 0 b.length 1 none,.sl 2 0 c.length 1 none],[.live (.ints .i64 a),.live (.ints .i64 b),.live (.bools c)],[decide (a.length≤274877906944),decide (b.length≤274877906944),decide (c.length≤274877906944)])
 |_,_=>none
theorem m99:ModelN Tryz.prog 110 FFcopied:=by
 intro args h res h' o hnorm he ho
 unfold FFcopied at he
 split at he
 case h_2=>cases he
 rename_i k nl1 a n1 cap1 nl2 b n2 cap2 nl3 c n3 cap3
 simp only[Option.some.injEq,Prod.mk.injEq]at he
 obtain⟨rfl,rfl,rfl⟩:=he
 simp only[List.mem_cons,List.not_mem_nil,or_false,forall_eq_or_imp,forall_eq,decide_eq_true_eq]at ho
 obtain⟨o1,o2,o3⟩:=ho
 simp only[normA,AV.norm,normL,Cell.norm,Con.size,List.cons.injEq,AV.c.injEq,AV.agg.injEq,Cell.view.injEq,nlen_one,true_and,and_true]at hnorm
 obtain⟨⟨rfl,rfl,rfl⟩,⟨rfl,rfl,rfl⟩,rfl,rfl,rfl⟩:=hnorm
 exact meets_of t23 (by kernel_rfl) (by kernel_rfl) (x99_1 k a b c) (by simp[o1,o2,o3]) (by simp) (fun c _=>LcOk.nil)
end Go.Proofs.YthapjdpkelihiaaGreat.Am
end
section
namespace Go.Proofs.YthapjdpkelihiaaGreat.Am
noncomputable def T24:List Entry:=[⟨81,[],nm FFshaped⟩,⟨110,[],nm FFcopied⟩]++T23
theorem e24:EntriesOk Tryz.prog T24:=by
 refine EntriesOk.append ?_ e23
 intro e he
 simp only[List.mem_cons,List.not_mem_nil,or_false]at he
 rcases he with rfl|rfl
 ·exact m70.ok
 ·exact m99.ok
theorem t24:CtOk Tryz.prog (ctOf T24):=ctOf_ok e24
theorem x48_1 (k:Int) (a b:List Int) (c:List Bool) (on:Bool) (kd:Int) (d:List Int) (vs:Int):evalF tt (ctOf T24) ([]) 100 Tryz.f49 [.agg [.int .i64 k,.view none (.ints .i64 a) a.length 1 none,.view none (.ints .i64 b) b.length 1 none,.view none (.bools c) c.length 1 none,.bool on,.int .i64 kd,.view none (.ints .i64 d) d.length 1 none,.int .i64 vs]] [] []=
  some ⟨.agg [.int .i64 k,.sl 0 0 a.length 1 none,.sl 1 0 b.length 1 none,.sl 2 0 c.length 1 none,.bool on,.int .i64 kd,.sl 3 0 (↑d.length:Int).toNat 1 none,.int .i64 vs],[.live (.ints .i64 a),.live (.ints .i64 b),.live (.bools c),.live (.ints .i64 d)],(decide (a.length≤274877906944)&&(decide (b.length≤274877906944)&&(decide (c.length≤274877906944)&&(decide (d.length≤274877906944)&&((decide ((↑d.length:Int)≤(↑d.length:Int))&&(decide ((↑d.length:Int)≤(↑d.length:Int))&&true))&&true))))),[]⟩:=by kernel_rfl
theorem putM:ModelOk Tryz.prog 104 (inlM tt (ctOf T24) Tryz.f104 []):=inlM_ok hT t24 hmix [] (by kernel_rfl) (by kernel_rfl)
theorem dropM:ModelOk Tryz.prog 50 (inlM tt (ctOf T24) Tryz.f50 []):=inlM_ok hT t24 hmix [] (by kernel_rfl) (by kernel_rfl)
noncomputable def T25:List Entry:=[⟨104,[0],inlM tt (ctOf T24) Tryz.f104 []⟩,⟨50,[0],inlM tt (ctOf T24) Tryz.f50 []⟩]++T24
theorem e25:EntriesOk Tryz.prog T25:=by
 refine EntriesOk.append ?_ e24
 intro e he
 simp only[List.mem_cons,List.not_mem_nil,or_false]at he
 rcases he with rfl|rfl
 ·exact putM
 ·exact dropM
theorem t25:CtOk Tryz.prog (ctOf T25):=ctOf_ok e25
def FFkcopied:Model:=fun args h=>
 match args,h with
 |[.agg [.int .i64 k,.view _ (.ints .i64 a) n1 1 _,.view _ (.ints .i64 b) n2 1 _,.view _ (.bools c) n3 1 _,.bool on,.int .i64 kd,.view _ (.ints .i64 d) n4 1 _,.int .i64 vs]],[]=>
  some (.agg [.int .i64 k,.sl 0 0 a.length 1 none,.sl 1 0 b.length 1 none,.sl 2 0 c.length 1 none,.bool on,.int .i64 kd,.sl 3 0 d.length 1 none,.int .i64 vs],[.live (.ints .i64 a),.live (.ints .i64 b),.live (.bools c),.live (.ints .i64 d)],[decide (a.length≤274877906944),decide (b.length≤274877906944),decide (c.length≤274877906944),decide (d.length≤274877906944)])
 |_,_=>none
theorem m48:ModelN Tryz.prog 49 FFkcopied:=by
 intro args h res h' o hnorm he ho
 unfold FFkcopied at he
 split at he
 case h_2=>cases he
 rename_i k nl1 a n1 cap1 nl2 b n2 cap2 nl3 c n3 cap3 on kd nl4 d n4 cap4 vs
 simp only[Option.some.injEq,Prod.mk.injEq]at he
 obtain⟨rfl,rfl,rfl⟩:=he
 simp only[List.mem_cons,List.not_mem_nil,or_false,forall_eq_or_imp,forall_eq,decide_eq_true_eq]at ho
 obtain⟨o1,o2,o3,o4⟩:=ho
 simp only[normA,AV.norm,normL,Cell.norm,Con.size,List.cons.injEq,AV.c.injEq,AV.agg.injEq,Cell.view.injEq,nlen_one,true_and,and_true]at hnorm
 obtain⟨⟨rfl,rfl,rfl⟩,⟨rfl,rfl,rfl⟩,⟨rfl,rfl,rfl⟩,rfl,rfl,rfl⟩:=hnorm
 exact meets_of t24 (by kernel_rfl) (by kernel_rfl) (x48_1 k a b c on kd d vs) (by simp[o1,o2,o3,o4]) (by simp) (fun c _=>LcOk.nil)
theorem writeM:ModelOk Tryz.prog 72 (inlM tt (ctOf T25) Tryz.f72 []):=inlM_ok hT t25 hmix [] (by kernel_rfl) (by kernel_rfl)
theorem endedM:ModelOk Tryz.prog 73 (inlM tt (ctOf T25) Tryz.f73 []):=inlM_ok hT t25 hmix [] (by kernel_rfl) (by kernel_rfl)
def leftS (b:List Int) (vs:Int) (i:Nat) (n:Int):Int:=bif b.getD i 0 !=vs then IntKind.i64.wrap (n+1)else n
def leftL (b:List Int) (vs:Int):Int:=runN (leftS b vs) b.length 0 0
def restS (vs:Int) (i:Nat) (s:List Int×List Int×List Bool):List Int×List Int×List Bool:=
 bif s.2.1.getD i 0==vs then(s.1.set i 0,s.2.1.set i 0,s.2.2.set i false)else s
def restL (a b:List Int) (c:List Bool) (vs:Int):List Int×List Int×List Bool:=runN (restS vs) b.length 0 (a,b,c)
noncomputable abbrev f71:=Tryz.f82
noncomputable def I71 (k:Int) (a b a' b':List Int) (c c':List Bool) (on:Bool) (kd:Int) (d:List Int) (vs:Int) (i:Int):St:=
 stOf f71.ntmps [(1,.c (.ptr 0 0 0 0)),(2,.c (.ptr 1 0 0 0)),(3,.c (.ptr 2 0 0 0)),(10,.c (.sl 3 0 b.length 1 none)),(11,.c (.int .i64 b.length)),(12,.c (.int .i64 i))]
  [.live (.cells [.int .i64 k,.view none (.ints .i64 a) a.length 1 none,.view none (.ints .i64 b) b.length 1 none,.view none (.bools c) c.length 1 none,.bool on,.int .i64 kd,.view none (.ints .i64 d) d.length 1 none,.int .i64 vs]),.live (.cells [.int .i64 0,.nils,.nils,.nils]),.live (.cells [.int .i64 k,.sl 4 0 a.length 1 none,.sl 3 0 b.length 1 none,.sl 5 0 c.length 1 none]),.live (.ints .i64 b'),.live (.ints .i64 a'),.live (.bools c')]
noncomputable def X71 (k:Int) (na nb nc:Nat) (a' b':List Int) (c':List Bool):St:=
 stOf f71.ntmps [(2,.c (.ptr 0 0 0 0)),(3,.c (.ptr 1 0 0 0))]
  [.live (.cells [.int .i64 0,.nils,.nils,.nils]),.live (.cells [.int .i64 k,.sl 2 0 na 1 none,.sl 3 0 nb 1 none,.sl 4 0 nc 1 none]),.live (.ints .i64 a'),.live (.ints .i64 b'),.live (.bools c')]
theorem r71_1 (k:Int) (a b a' b':List Int) (c c':List Bool) (on:Bool) (kd:Int) (d:List Int) (vs:Int) (i:Int):roundR 0 (liveH f71 0) (liveB' f71 0) (evalC tt (ctOf T25) ([]) 0 100 (bodyAt 0 (codeOf f71)) (I71 k a b a' b' c c' on kd d vs i) [(0,true),(0,true)])=
  some (.normal,(decide (i<(↑b.length:Int))&&(decide (0≤i)&&(decide (i<(↑b.length:Int))&&(decide (i.toNat<b'.length)&&((b'.getD i.toNat 0==vs)&&((decide (0≤i)&&(decide (i<(↑a.length:Int))&&(decide (i.toNat<a'.length)&&(decide (0≤i)&&(decide (i<(↑b.length:Int))&&(decide (i.toNat<b'.length)&&(decide (0≤i)&&(decide (i<(↑c.length:Int))&&(decide (i.toNat<c'.length)&&true)))))))))&&true)))))),[],I71 k a b (a'.set i.toNat 0) (b'.set i.toNat 0) c (c'.set i.toNat false) on kd d vs (IntKind.i64.wrap (i+1))):=by kernel_rfl
theorem r71_2 (k:Int) (a b a' b':List Int) (c c':List Bool) (on:Bool) (kd:Int) (d:List Int) (vs:Int) (i:Int):roundR 0 (liveH f71 0) (liveB' f71 0) (evalC tt (ctOf T25) ([]) 0 100 (bodyAt 0 (codeOf f71)) (I71 k a b a' b' c c' on kd d vs i) [(0,true),(0,false)])=
  some (.normal,(decide (i<(↑b.length:Int))&&(decide (0≤i)&&(decide (i<(↑b.length:Int))&&(decide (i.toNat<b'.length)&&((!b'.getD i.toNat 0==vs)&&true))))),[],I71 k a b (a') (b') c (c') on kd d vs (IntKind.i64.wrap (i+1))):=by kernel_rfl
theorem r71_3 (k:Int) (a b a' b':List Int) (c c':List Bool) (on:Bool) (kd:Int) (d:List Int) (vs:Int) (i:Int):roundR 0 (liveH f71 0) (liveB' f71 0) (evalC tt (ctOf T25) ([]) 0 100 (bodyAt 0 (codeOf f71)) (I71 k a b a' b' c c' on kd d vs i) [(0,false)])=
  some (.exit 0,((!decide (i<(↑b.length:Int)))&&true),[],X71 k a.length b.length c.length (a') (b') (c')):=by kernel_rfl
theorem l71 (k:Int) (a b:List Int) (c:List Bool) (on:Bool) (kd:Int) (d:List Int) (vs:Int) (hb:b.length≤274877906944) (ha:a.length=b.length) (hc:c.length=b.length):
  Good Tryz.prog 0 (.block 0 (.loop (bodyAt 0 (codeOf f71)))) (I71 k a b a b c c on kd d vs 0) fun e t=>e=.normal∧t=X71 k a.length b.length c.length (restL a b c vs).1 (restL a b c vs).2.1 (restL a b c vs).2.2:=by
 refine Good.count hT t25 hmix b.length (fun _ s=>s.1.length=b.length∧s.2.1.length=b.length∧s.2.2.length=b.length) (fun i s=>I71 k a b s.1 s.2.1 c s.2.2 on kd d vs i)
  (fun s=>X71 k a.length b.length c.length s.1 s.2.1 s.2.2) (restS vs) (liveH f71 0) (liveB' f71 0)
  (fun _ _=>[]) (fun _ _ _ _=>LcOk.nil) (fun i s hi h=> ?_) (fun s _=>⟨_,_,⟨_,_,r71_3 k a b s.1 s.2.1 c s.2.2 on kd d vs b.length,by simp,by simp⟩⟩) (a,b,c) ⟨ha,rfl,hc⟩
 obtain⟨a',b',c'⟩:=s
 obtain⟨h1,h2,h3⟩:=h
 dsimp only at h1 h2 h3
 unfold restS
 cases hz:b'.getD i 0==vs with
 |true=>
  refine⟨by simp[h1,h2,h3], ?_⟩
  have e:=r71_1 k a b a' b' c c' on kd d vs i
  rw[wrap_small (i:=(i:Int)+1) (by omega) (by omega),Int.toNat_natCast]at e
  refine⟨_,_,⟨_,_,e, ?_,by simp⟩⟩
  simp only[hz,Bool.true_and,Bool.and_true,Bool.and_eq_true,decide_eq_true_eq]
  omega
 |false=>
  refine⟨⟨h1,h2,h3⟩, ?_⟩
  have e:=r71_2 k a b a' b' c c' on kd d vs i
  rw[wrap_small (by omega) (by omega),Int.toNat_natCast]at e
  refine⟨_,_,⟨_,_,e, ?_,by simp⟩⟩
  simp only[hz,Bool.not_false,Bool.true_and,Bool.and_true,Bool.and_eq_true,decide_eq_true_eq]
  omega
theorem x71_1 (k:Int) (a b:List Int) (c:List Bool) (on:Bool) (kd:Int) (d:List Int) (vs:Int):evalF tt (ctOf T25) ([(0,⟨liveH f71 0,I71 k a b a b c c on kd d vs 0,.normal,X71 k a.length b.length c.length (restL a b c vs).1 (restL a b c vs).2.1 (restL a b c vs).2.2⟩)]) 100 f71 [.agg [.int .i64 k,.view none (.ints .i64 a) a.length 1 none,.view none (.ints .i64 b) b.length 1 none,.view none (.bools c) c.length 1 none,.bool on,.int .i64 kd,.view none (.ints .i64 d) d.length 1 none,.int .i64 vs]] [] []=
  some ⟨.agg [.int .i64 k,.sl 0 0 a.length 1 none,.sl 1 0 b.length 1 none,.sl 2 0 c.length 1 none],[.live (.ints .i64 (restL a b c vs).fst),.live (.ints .i64 (restL a b c vs).2.1),.live (.bools (restL a b c vs).2.2)],(decide (a.length≤274877906944)&&(decide (b.length≤274877906944)&&((decide (c.length≤274877906944))&&true))),[I71 k a b a b c c on kd d vs 0=I71 k a b a b c c on kd d vs 0]⟩:=by kernel_rfl
def FFrest:Model:=fun args h=>
 match args,h with
 |[.agg [.int .i64 k,.view _ (.ints .i64 a) n1 1 _,.view _ (.ints .i64 b) n2 1 _,.view _ (.bools c) n3 1 _,.bool on,.int .i64 kd,.view _ (.ints .i64 d) n4 1 _,.int .i64 vs]],[]=>
  some (.agg [.int .i64 k,.sl 0 0 a.length 1 none,.sl 1 0 b.length 1 none,.sl 2 0 c.length 1 none],[.live (.ints .i64 (restL a b c vs).1),.live (.ints .i64 (restL a b c vs).2.1),.live (.bools (restL a b c vs).2.2)],[decide (b.length≤274877906944),decide (a.length=b.length),decide (c.length=b.length)])
 |_,_=>none
theorem m71:ModelN Tryz.prog 82 FFrest:=by
 intro args h res h' o hnorm he ho
 unfold FFrest at he
 split at he
 case h_2=>cases he
 rename_i k nl1 a n1 cap1 nl2 b n2 cap2 nl3 c n3 cap3 on kd nl4 d n4 cap4 vs
 simp only[Option.some.injEq,Prod.mk.injEq]at he
 obtain⟨rfl,rfl,rfl⟩:=he
 simp only[List.mem_cons,List.not_mem_nil,or_false,forall_eq_or_imp,forall_eq,decide_eq_true_eq]at ho
 obtain⟨o1,o2,o3⟩:=ho
 simp only[normA,AV.norm,normL,Cell.norm,Con.size,List.cons.injEq,AV.c.injEq,AV.agg.injEq,Cell.view.injEq,nlen_one,true_and,and_true]at hnorm
 obtain⟨⟨rfl,rfl,rfl⟩,⟨rfl,rfl,rfl⟩,⟨rfl,rfl,rfl⟩,rfl,rfl,rfl⟩:=hnorm
 exact meets_of t25 (by kernel_rfl) (by kernel_rfl) (x71_1 k a b c on kd d vs) (by simp[o1,o2,o3]) (by simp) (fun cc hc=>LcOk.cons (c:=cc) (by cases hc;kernel_rfl) (by cases hc;exact l71 k a b c on kd d vs o1 o2 o3) LcOk.nil)
end Go.Proofs.YthapjdpkelihiaaGreat.Am
end
section
namespace Go.Proofs.YthapjdpkelihiaaGreat.Am
noncomputable def T26:List Entry:=[⟨49,[],nm FFkcopied⟩,⟨72,[0],inlM tt (ctOf T25) Tryz.f72 []⟩,⟨73,[0],inlM tt (ctOf T25) Tryz.f73 []⟩,⟨82,[],nm FFrest⟩]++T25
theorem e26:EntriesOk Tryz.prog T26:=by
 refine EntriesOk.append ?_ e25
 intro e he
 simp only[List.mem_cons,List.not_mem_nil,or_false]at he
 rcases he with rfl|rfl|rfl|rfl
 ·exact m48.ok
 ·exact writeM
 ·exact endedM
 ·exact m71.ok
theorem t26:CtOk Tryz.prog (ctOf T26):=ctOf_ok e26
theorem of1M:ModelOk Tryz.prog 155 (inlM tt (ctOf T26) Tryz.f155 []):=inlM_ok hT t26 hmix [] (by kernel_rfl) (by kernel_rfl)
noncomputable def T27:List Entry:=[⟨155,[1,2],inlM tt (ctOf T26) Tryz.f155 []⟩]++T26
theorem e27:EntriesOk Tryz.prog T27:=by
 refine EntriesOk.append ?_ e26
 intro e he
 simp only[List.mem_cons,List.not_mem_nil,or_false]at he
 subst he;exact of1M
theorem t27:CtOk Tryz.prog (ctOf T27):=ctOf_ok e27
noncomputable abbrev f146o:=Tryz.f176
noncomputable def I146o (k:Int) (n1 n2 n3:Nat) (nl1 nl2 nl3:Option Bool) (cap1 cap2 cap3:Option Nat) (a b:List Int) (c:List Bool) (vs:Int) (v:List Int) (i:Int):St:=
 stOf f146o.ntmps [(0,.c (.sl 0 0 v.length 1 none)),(1,.c (.fn 155 [.ptr 1 0 0 0,.ptr 2 0 0 0])),(7,.c (.int .i64 v.length)),(8,.c (.int .i64 i))] [.live (.ints .i64 v),.live (.cells [.int .i64 k,.view nl1 (.ints .i64 a) n1 1 cap1,.view nl2 (.ints .i64 b) n2 1 cap2,.view nl3 (.bools c) n3 1 cap3]),.live (.ints .i64 [vs])]
noncomputable def X146o (k:Int) (n1 n2 n3:Nat) (nl1 nl2 nl3:Option Bool) (cap1 cap2 cap3:Option Nat) (a b:List Int) (c:List Bool) (vs:Int) (v:List Int):St:=stOf f146o.ntmps [] [.live (.ints .i64 v),.live (.cells [.int .i64 k,.view nl1 (.ints .i64 a) n1 1 cap1,.view nl2 (.ints .i64 b) n2 1 cap2,.view nl3 (.bools c) n3 1 cap3]),.live (.ints .i64 [vs])]
noncomputable def Y146o (k:Int) (n1 n2 n3:Nat) (nl1 nl2 nl3:Option Bool) (cap1 cap2 cap3:Option Nat) (a b:List Int) (c:List Bool) (vs:Int) (v:List Int) (i:Int):St:=stOf f146o.ntmps [(4,.c (.int .i64 i))] [.live (.ints .i64 v),.live (.cells [.int .i64 k,.view nl1 (.ints .i64 a) n1 1 cap1,.view nl2 (.ints .i64 b) n2 1 cap2,.view nl3 (.bools c) n3 1 cap3]),.live (.ints .i64 [vs])]
theorem r146o_1 (k:Int) (n1 n2 n3:Nat) (nl1 nl2 nl3:Option Bool) (cap1 cap2 cap3:Option Nat) (a b:List Int) (c:List Bool) (vs:Int) (v:List Int) (i:Int):roundR 3 (liveH f146o 0) (liveB' f146o 0) (evalC tt (ctOf T27) ([]) 3 100 (bodyAt 0 (codeOf f146o)) (I146o k n1 n2 n3 nl1 nl2 nl3 cap1 cap2 cap3 a b c vs v i) [(0,true),(0,true)])=
  some (.ret,(decide (i<(↑v.length:Int))&&(decide (0≤i)&&(decide (i<(↑v.length:Int))&&(decide (i.toNat<v.length)&&((decide (0≤v.getD i.toNat 0)&&(decide (v.getD i.toNat 0<(↑n2:Int))&&(decide ((v.getD i.toNat 0).toNat<b.length)&&true)))&&((b.getD (v.getD i.toNat 0).toNat 0 !=vs)&&true)))))),[],Y146o k n1 n2 n3 nl1 nl2 nl3 cap1 cap2 cap3 a b c vs v (i)):=by kernel_rfl
theorem r146o_2 (k:Int) (n1 n2 n3:Nat) (nl1 nl2 nl3:Option Bool) (cap1 cap2 cap3:Option Nat) (a b:List Int) (c:List Bool) (vs:Int) (v:List Int) (i:Int):roundR 3 (liveH f146o 0) (liveB' f146o 0) (evalC tt (ctOf T27) ([]) 3 100 (bodyAt 0 (codeOf f146o)) (I146o k n1 n2 n3 nl1 nl2 nl3 cap1 cap2 cap3 a b c vs v i) [(0,true),(0,false)])=
  some (.normal,(decide (i<(↑v.length:Int))&&(decide (0≤i)&&(decide (i<(↑v.length:Int))&&(decide (i.toNat<v.length)&&((decide (0≤v.getD i.toNat 0)&&(decide (v.getD i.toNat 0<(↑n2:Int))&&(decide ((v.getD i.toNat 0).toNat<b.length)&&true)))&&((!b.getD (v.getD i.toNat 0).toNat 0 !=vs)&&true)))))),[],I146o k n1 n2 n3 nl1 nl2 nl3 cap1 cap2 cap3 a b c vs v (IntKind.i64.wrap (i+1))):=by kernel_rfl
theorem r146o_3 (k:Int) (n1 n2 n3:Nat) (nl1 nl2 nl3:Option Bool) (cap1 cap2 cap3:Option Nat) (a b:List Int) (c:List Bool) (vs:Int) (v:List Int) (i:Int):roundR 3 (liveH f146o 0) (liveB' f146o 0) (evalC tt (ctOf T27) ([]) 3 100 (bodyAt 0 (codeOf f146o)) (I146o k n1 n2 n3 nl1 nl2 nl3 cap1 cap2 cap3 a b c vs v i) [(0,false)])=
  some (.exit 0,((!decide (i<(↑v.length:Int)))&&true),[],X146o k n1 n2 n3 nl1 nl2 nl3 cap1 cap2 cap3 a b c vs v):=by kernel_rfl
noncomputable def p146o (k:Int) (n1 n2 n3:Nat) (nl1 nl2 nl3:Option Bool) (cap1 cap2 cap3:Option Nat) (a b:List Int) (c:List Bool) (vs:Int) (v:List Int):Option Nat→St
 |some j=>Y146o k n1 n2 n3 nl1 nl2 nl3 cap1 cap2 cap3 a b c vs v j
 |none=>X146o k n1 n2 n3 nl1 nl2 nl3 cap1 cap2 cap3 a b c vs v
theorem l146o (k:Int) (n1 n2 n3:Nat) (nl1 nl2 nl3:Option Bool) (cap1 cap2 cap3:Option Nat) (a b:List Int) (c:List Bool) (vs:Int) (v:List Int) (hl:v.length≤274877906944) (hok: ∀i,i<v.length→(0≤v.getD i 0∧v.getD i 0<n2)∧(v.getD i 0).toNat<b.length):
  Good Tryz.prog 3 (.block 0 (.loop (bodyAt 0 (codeOf f146o)))) (I146o k n1 n2 n3 nl1 nl2 nl3 cap1 cap2 cap3 a b c vs v 0) fun e t=>e=e154 (idxO (fun x=>b.getD x.toNat 0 !=vs) v)∧t=p146o k n1 n2 n3 nl1 nl2 nl3 cap1 cap2 cap3 a b c vs v (idxO (fun x=>b.getD x.toNat 0 !=vs) v):=by
 refine Good.roundsR hT t27 hmix (m:=3) (id:=0) (body:=bodyAt 0 (codeOf f146o)) (α:=Nat)
  (fun i=>i≤v.length∧idxAt (fun x=>b.getD x.toNat 0 !=vs) v (v.length-i) i=idxO (fun x=>b.getD x.toNat 0 !=vs) v) (fun i=>I146o k n1 n2 n3 nl1 nl2 nl3 cap1 cap2 cap3 a b c vs v i) (fun i=>v.length-i) (liveH f146o 0) (liveB' f146o 0)
  (fun _=>e154 (idxO (fun x=>b.getD x.toNat 0 !=vs) v)) (fun _=>p146o k n1 n2 n3 nl1 nl2 nl3 cap1 cap2 cap3 a b c vs v (idxO (fun x=>b.getD x.toNat 0 !=vs) v)) (fun _=>[]) (fun _ _=>LcOk.nil) (fun i hx=> ?_) 0 ⟨by simp,rfl⟩
 obtain⟨h1,h3⟩:=hx
 by_cases hi:i<v.length
 ·have hk:v.length-i=(v.length-(i+1))+1:=by omega
  rw[hk]at h3
  simp only[idxAt]at h3
  obtain⟨⟨ho1,ho2⟩,ho3⟩:=hok i hi
  cases hz:(fun x=>b.getD x.toNat 0 !=vs) (v.getD i 0)with
  |false=>
   dsimp only at hz
   rw[hz]at h3
   have e:=r146o_2 k n1 n2 n3 nl1 nl2 nl3 cap1 cap2 cap3 a b c vs v i
   rw[wrap_small (by omega) (by omega),Int.toNat_natCast]at e
   refine⟨_,_,_,_,_,_,e, ?_,by simp,.inl ⟨rfl,i+1,⟨by omega,by simpa using h3⟩,by omega,rfl,rfl,rfl⟩⟩
   simp only[hz,Bool.not_false,Bool.true_and,Bool.and_true,Bool.and_eq_true,decide_eq_true_eq]
   omega
  |true=>
   dsimp only at hz
   rw[hz]at h3
   simp only[cond_true]at h3
   have e:=r146o_1 k n1 n2 n3 nl1 nl2 nl3 cap1 cap2 cap3 a b c vs v i
   rw[Int.toNat_natCast]at e
   refine⟨_,_,_,_,_,_,e, ?_,by simp,.inr (.inr ⟨by simp,by simp, ?_, ?_⟩)⟩
   ·simp only[hz,Bool.true_and,Bool.and_true,Bool.and_eq_true,decide_eq_true_eq]
    omega
   ·rw[←h3];rfl
   ·rw[←h3];rfl
 ·have hz:v.length-i=0:=by omega
  rw[hz]at h3
  simp only[idxAt]at h3
  exact⟨_,_,_,_,_,_,r146o_3 k n1 n2 n3 nl1 nl2 nl3 cap1 cap2 cap3 a b c vs v i,by simp;omega,by simp,.inr (.inl ⟨rfl,by rw[←h3];rfl,by rw[←h3];rfl⟩)⟩
def places (v:List Int) (n:Nat):Bool:=v.all fun x=>decide (0≤x)&&decide (x<n)
theorem places_get {v:List Int} {n:Nat} (h:places v n=true) {i:Nat} (hi:i<v.length):0≤v.getD i 0∧v.getD i 0<n:=by
 rw[List.getD_eq_getElem?_getD,List.getElem?_eq_getElem hi]
 have:=List.all_eq_true.1 h _ (List.getElem_mem hi)
 simpa using this
def FFidxOf:Model:=fun args h=>
 match args,h with
 |[.c (.sl 0 0 n 1 none),.c (.fn 155 [.ptr 1 0 0 0,.ptr 2 0 0 0])],[.live (.ints .i64 v),.live (.cells [.int .i64 k,.view nl1 (.ints .i64 a) n1 1 cap1,.view nl2 (.ints .i64 b) n2 1 cap2,.view nl3 (.bools c) n3 1 cap3]),.live (.ints .i64 [vs])]=>
  some (.c (.int .i64 (idxL (fun x=>b.getD x.toNat 0 !=vs) v)),[.live (.ints .i64 v),.live (.cells [.int .i64 k,.view nl1 (.ints .i64 a) n1 1 cap1,.view nl2 (.ints .i64 b) n2 1 cap2,.view nl3 (.bools c) n3 1 cap3]),.live (.ints .i64 [vs])],[decide (v.length≤274877906944),decide (v.length=n),places v b.length,decide (n2=b.length)])
 |_,_=>none
theorem x146o_1 (k:Int) (n1 n2 n3:Nat) (nl1 nl2 nl3:Option Bool) (cap1 cap2 cap3:Option Nat) (a b:List Int) (c:List Bool) (vs:Int) (v:List Int):evalF tt (ctOf T27) ([(0,⟨liveH f146o 0,I146o k n1 n2 n3 nl1 nl2 nl3 cap1 cap2 cap3 a b c vs v 0,.normal,X146o k n1 n2 n3 nl1 nl2 nl3 cap1 cap2 cap3 a b c vs v⟩)]) 100 f146o [.c (.sl 0 0 v.length 1 none),.c (.fn 155 [.ptr 1 0 0 0,.ptr 2 0 0 0])] [.live (.ints .i64 v),.live (.cells [.int .i64 k,.view nl1 (.ints .i64 a) n1 1 cap1,.view nl2 (.ints .i64 b) n2 1 cap2,.view nl3 (.bools c) n3 1 cap3]),.live (.ints .i64 [vs])] []=
  some ⟨.c (.int .i64 (-1)),[.live (.ints .i64 v),.live (.cells [.int .i64 k,.view nl1 (.ints .i64 a) n1 1 cap1,.view nl2 (.ints .i64 b) n2 1 cap2,.view nl3 (.bools c) n3 1 cap3]),.live (.ints .i64 [vs])],true,[I146o k n1 n2 n3 nl1 nl2 nl3 cap1 cap2 cap3 a b c vs v 0=I146o k n1 n2 n3 nl1 nl2 nl3 cap1 cap2 cap3 a b c vs v 0]⟩:=by kernel_rfl
theorem x146p_1 (k:Int) (n1 n2 n3:Nat) (nl1 nl2 nl3:Option Bool) (cap1 cap2 cap3:Option Nat) (a b:List Int) (c:List Bool) (vs:Int) (v:List Int) (j:Nat):evalF tt (ctOf T27) ([(0,⟨liveH f146o 0,I146o k n1 n2 n3 nl1 nl2 nl3 cap1 cap2 cap3 a b c vs v 0,.ret,Y146o k n1 n2 n3 nl1 nl2 nl3 cap1 cap2 cap3 a b c vs v j⟩)]) 100 f146o [.c (.sl 0 0 v.length 1 none),.c (.fn 155 [.ptr 1 0 0 0,.ptr 2 0 0 0])] [.live (.ints .i64 v),.live (.cells [.int .i64 k,.view nl1 (.ints .i64 a) n1 1 cap1,.view nl2 (.ints .i64 b) n2 1 cap2,.view nl3 (.bools c) n3 1 cap3]),.live (.ints .i64 [vs])] []=
  some ⟨.c (.int .i64 (↑j:Int)),[.live (.ints .i64 v),.live (.cells [.int .i64 k,.view nl1 (.ints .i64 a) n1 1 cap1,.view nl2 (.ints .i64 b) n2 1 cap2,.view nl3 (.bools c) n3 1 cap3]),.live (.ints .i64 [vs])],true,[I146o k n1 n2 n3 nl1 nl2 nl3 cap1 cap2 cap3 a b c vs v 0=I146o k n1 n2 n3 nl1 nl2 nl3 cap1 cap2 cap3 a b c vs v 0]⟩:=by kernel_rfl
theorem m146o:ModelOk Tryz.prog 176 FFidxOf:=by
 intro args h res h' o he ho
 unfold FFidxOf at he
 split at he
 case h_2=>cases he
 rename_i n v k nl1 a n1 cap1 nl2 b n2 cap2 nl3 c n3 cap3 vs
 simp only[Option.some.injEq,Prod.mk.injEq]at he
 obtain⟨rfl,rfl,rfl⟩:=he
 simp only[List.mem_cons,List.not_mem_nil,or_false,forall_eq_or_imp,forall_eq,decide_eq_true_eq]at ho
 obtain⟨o1,o2,o3,o4⟩:=ho
 subst o2
 have g:=l146o k n1 n2 n3 nl1 nl2 nl3 cap1 cap2 cap3 a b c vs v o1 (fun i hi=>by have:=places_get o3 hi;omega)
 unfold idxL
 cases hx:idxO (fun x=>b.getD x.toNat 0 !=vs) v with
 |none=>
  rw[hx]at g
  exact meets_of t27 (fn:=f146o) (by kernel_rfl) (by kernel_rfl) (x146o_1 k n1 n2 n3 nl1 nl2 nl3 cap1 cap2 cap3 a b c vs v) rfl (by simp) (fun cc hc=>LcOk.cons (c:=cc) (by cases hc;kernel_rfl) (by cases hc;exact g) LcOk.nil)
 |some j=>
  rw[hx]at g
  exact meets_of t27 (fn:=f146o) (by kernel_rfl) (by kernel_rfl) (x146p_1 k n1 n2 n3 nl1 nl2 nl3 cap1 cap2 cap3 a b c vs v j) rfl (by simp) (fun cc hc=>LcOk.cons (c:=cc) (by cases hc;kernel_rfl) (by cases hc;exact g) LcOk.nil)
noncomputable def T28:List Entry:=[⟨176,[0,1],FFidxOf⟩]++T27
theorem e28:EntriesOk Tryz.prog T28:=by
 refine EntriesOk.append ?_ e27
 intro e he
 simp only[List.mem_cons,List.not_mem_nil,or_false]at he
 subst he;exact m146o
theorem t28:CtOk Tryz.prog (ctOf T28):=ctOf_ok e28
noncomputable abbrev f141:=Tryz.f154
end Go.Proofs.YthapjdpkelihiaaGreat.Am
end
section
namespace Go.Proofs.YthapjdpkelihiaaGreat.Am
def SlotLe (s t:Slot):Prop:= ∀(X:Nat→Prop) (w:World) (ρ:Rho) (x:Wh),SlotR X w ρ s x→SlotR X w ρ t x
theorem SlotLe.refl (s:Slot):SlotLe s s:=fun _ _ _ _ h=>h
theorem SlotLe.take (k:IntKind) (xs:List Int) (n:Nat):SlotLe (.live (.ints k xs)) (.live (.ints k (xs.take n))):=fun X w ρ x h=>by
 cases x with
 |unborn=>exact h.elim
 |dead=>exact h.elim
 |nil=>simp only[SlotR,Con.size,List.length_take]at h⊢;omega
 |row b=>
  obtain⟨cs,ty,h1,h2,h3⟩:=h
  simp only[Con.size]at h2 h3
  refine⟨cs,ty,h1,by simp only[Con.size,List.length_take];omega,fun q hq=> ?_⟩
  simp only[Con.size,List.length_take]at hq
  have:=h3 q (by omega)
  simp only[Con.cell]at this⊢
  rw[List.getD_eq_getElem?_getD,List.getElem?_take,if_pos (by omega),←List.getD_eq_getElem?_getD]
  exact this
def slotsLe:List Slot→List Slot→Prop
 |[],[]=>True
 |s::r,t::r'=>SlotLe s t∧slotsLe r r'
 |_,_=>False
theorem slotsLe_get: ∀ {h h':List Slot},slotsLe h h'→ ∀id,SlotLe (Heap.get h id) (Heap.get h' id)
 |[],[],_,id=>SlotLe.refl _
 |s::r,t::r',h,0=>h.1
 |s::r,t::r',h,id+1=>by
  have:=slotsLe_get h.2 id
  simpa [Heap.get]using this
 |[],_::_,h,_=>h.elim
 |_::_,[],h,_=>h.elim
theorem Meets.slots {P:Program} {f:FuncId} {args:List AV} {h h' h'':List Slot} {res:AV} (hm:Meets P f args h res h') (hs:slotsLe h' h''):Meets P f args h res h'':=by
 refine⟨hm.1,fun {X w0 ρ0} m vs hl hv=> ?_⟩
 refine Calls.mono (hm.2 m vs hl hv) ?_
 rintro e w' ⟨v,ρ',rfl,mb,im,m',hr⟩
 exact⟨v,ρ',rfl,mb,im,⟨fun id=>slotsLe_get hs id _ _ _ _ (m'.slot id),m'.inj,m'.own,m'.os,m'.tape,m'.output,m'.size,m'.keep,m'.foreign⟩,hr⟩
theorem Meets.nilTup {P:Program} {f:FuncId} {args:List AV} {h h':List Slot} {es:Nat} {c0:Con} {r:List AV} (hm:Meets P f args h (.tup (.c .nils::r)) h') (hc:c0.size=0):
  Meets P f args h (.tup (.c (.sl h'.length 0 0 es none)::r)) (h'++[.live c0]):=by
 refine⟨hm.1,fun {X w0 ρ0} m vs hl hv=> ?_⟩
 refine Calls.mono (hm.2 m vs hl hv) ?_
 rintro e w' ⟨v,ρ',rfl,mb,im,m',hr⟩
 obtain⟨hun,m2⟩:=m'.addNil hc
 have mo:=new_mono w' hun
 refine⟨v,_,rfl,mb.trans mo.toB,im.trans mo.ids,m2, ?_⟩
 cases hr with
 |tup l vs hs hx=>
  refine .tup _ _ (by simpa using hs) fun i hi=> ?_
  cases i with
  |zero=>
   have h0:=hx 0 (by simp)
   simp only[List.getD_cons_zero]at h0⊢
   cases h0 with
   |c x v hx=>exact .c _ _ (nil_cell hx)
  |succ i=>
   have:=hx (i+1) (by simpa using hi)
   simp only[List.getD_cons_succ]at this⊢
   exact this.mono mo
def nil1L (id es:Nat):List Cell→Option (List Cell)
 |[]=>none
 |.nils::r=>some (.sl id 0 0 es none::r)
 |x::r=>(nil1L id es r).map (x:: ·)
def nil1F (id es:Nat):AV→Option AV
 |.c .nils=>some (.c (.sl id 0 0 es none))
 |.agg l=>(nil1L id es l).map .agg
 |_=>none
def nil1T (id es:Nat):List AV→Option (List AV)
 |[]=>none
 |x::r=>match nil1F id es x with
  |some y=>some (y::r)
  |none=>(nil1T id es r).map (x:: ·)
def nil1 (id es:Nat):AV→Option AV
 |.tup l=>(nil1T id es l).map .tup
 |x=>nil1F id es x
theorem nil1L_sound {X:Nat→Prop} {w:World} {ρ:Rho} {id es:Nat} (hun:ρ id=.unborn): ∀ {l l':List Cell},nil1L id es l=some l'→
  l'.length=l.length∧ ∀i v,CR X w ρ (l.getD i .any) v→CR X w (upd ρ id .nil) (l'.getD i .any) v
 |[],l',h=>by simp[nil1L]at h
 |x::r,l',h=>by
  have mo:=new_mono w hun
  by_cases hx:x=.nils
  ·subst hx
   simp only[nil1L,Option.some.injEq]at h
   subst h
   refine⟨rfl,fun i v hv=> ?_⟩
   cases i with
   |zero=>simp only[List.getD_cons_zero]at hv⊢;exact nil_cell hv
   |succ i=>simp only[List.getD_cons_succ]at hv⊢;exact hv.mono mo
  ·have hh:nil1L id es (x::r)=(nil1L id es r).map (x:: ·):=by
    cases x<;>first|rfl|exact absurd rfl hx
   rw[hh]at h
   obtain⟨r',h1,h2⟩:=Option.map_eq_some_iff.1 h
   subst h2
   obtain⟨g1,g2⟩:=nil1L_sound (X:=X) (w:=w) hun h1
   refine⟨by simp[g1],fun i v hv=> ?_⟩
   cases i with
   |zero=>simp only[List.getD_cons_zero]at hv⊢;exact hv.mono mo
   |succ i=>simp only[List.getD_cons_succ]at hv⊢;exact g2 i v hv
theorem nil1F_sound {X:Nat→Prop} {w:World} {ρ:Rho} {id es:Nat} (hun:ρ id=.unborn) {x y:AV} {v:Value} (h:nil1F id es x=some y) (hx:AVR X w ρ x v):AVR X w (upd ρ id .nil) y v:=by
 unfold nil1F at h
 split at h
 ·injection h with h;subst h
  cases hx with
  |c x v hx=>exact .c _ _ (nil_cell hx)
 ·obtain⟨l',h1,h2⟩:=Option.map_eq_some_iff.1 h
  subst h2
  cases hx with
  |agg cs vs hs hx=>
   obtain⟨g1,g2⟩:=nil1L_sound (X:=X) (w:=w) hun h1
   exact .agg _ _ (by rw[g1];exact hs) fun i hi=>g2 i _ (hx i (by rw[←g1];exact hi))
 ·cases h
theorem nil1T_sound {X:Nat→Prop} {w:World} {ρ:Rho} {id es:Nat} (hun:ρ id=.unborn): ∀ {l l':List AV},nil1T id es l=some l'→
  l'.length=l.length∧ ∀i v,i<l.length→AVR X w ρ (l.getD i (.tup [])) v→AVR X w (upd ρ id .nil) (l'.getD i (.tup [])) v
 |[],l',h=>by simp[nil1T]at h
 |x::r,l',h=>by
  have mo:=new_mono w hun
  simp only[nil1T]at h
  split at h
  ·rename_i y hy
   injection h with h;subst h
   refine⟨rfl,fun i v hi hv=> ?_⟩
   cases i with
   |zero=>simp only[List.getD_cons_zero]at hv⊢;exact nil1F_sound hun hy hv
   |succ i=>simp only[List.getD_cons_succ]at hv⊢;exact hv.mono mo
  ·obtain⟨r',h1,h2⟩:=Option.map_eq_some_iff.1 h
   subst h2
   obtain⟨g1,g2⟩:=nil1T_sound (X:=X) (w:=w) hun h1
   refine⟨by simp[g1],fun i v hi hv=> ?_⟩
   cases i with
   |zero=>simp only[List.getD_cons_zero]at hv⊢;exact hv.mono mo
   |succ i=>simp only[List.getD_cons_succ]at hv⊢;exact g2 i v (by simpa using hi) hv
theorem Meets.nil1 {P:Program} {f:FuncId} {args:List AV} {h h':List Slot} {es:Nat} {c0:Con} {res res':AV} (hm:Meets P f args h res h') (hc:c0.size=0) (hr:Am.nil1 h'.length es res=some res'):
  Meets P f args h res' (h'++[.live c0]):=by
 refine⟨hm.1,fun {X w0 ρ0} m vs hl hv=> ?_⟩
 refine Calls.mono (hm.2 m vs hl hv) ?_
 rintro e w' ⟨v,ρ',rfl,mb,im,m',hx⟩
 obtain⟨hun,m2⟩:=m'.addNil hc
 have mo:=new_mono w' hun
 refine⟨v,_,rfl,mb.trans mo.toB,im.trans mo.ids,m2, ?_⟩
 cases hx with
 |tup l vs hs hx=>
  simp only[Am.nil1]at hr
  obtain⟨l',h1,h2⟩:=Option.map_eq_some_iff.1 hr
  subst h2
  obtain⟨g1,g2⟩:=nil1T_sound (X:=X) (w:=w') hun h1
  exact .tup _ _ (by rw[g1];exact hs) fun i hi=>g2 i _ (by rw[←g1];exact hi) (hx i (by rw[←g1];exact hi))
 |any=>simp[Am.nil1,nil1F]at hr
 |c x v hx=>exact nil1F_sound hun (by simpa only[Am.nil1]using hr) (.c x v hx)
 |agg cs vs hs hx=>exact nil1F_sound hun (by simpa only[Am.nil1]using hr) (.agg cs vs hs hx)
end Go.Proofs.YthapjdpkelihiaaGreat.Am
end
