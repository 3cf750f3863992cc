/- DERIVED. Part 3 of the proof: C15, C16, C17, Am27, Am28, C18, C19, C20, Am29, C21, C22, C23, C24, Am30, C25, C26, C27, Am31. No statement of the program is proved here. -/
import Derived.Test.YthapjdpkelihiaaGreatX02
set_option linter.unusedSimpArgs false
set_option linter.unusedVariables false
set_option linter.unusedSectionVars false
namespace Go.Proofs.YthapjdpkelihiaaGreat.Am
section
def PQ:aQ:=fun args h=>
 match args,h with
 |[.c (.int .i64 n)],[]=>some (.c (.bool (n !=0)),[],[])
 |_,_=>none
theorem a7T:aS Tryz.prog 216 PQ:=by
 intro args h res h' o he ho
 unfold PQ at he
 split at he
 ·rename_i n
  simp only[Option.some.injEq,Prod.mk.injEq]at he
  obtain⟨rfl,rfl,rfl⟩:=he
  have e:aG tt (aB T11) [] 100 Tryz.f216 [.c (.int .i64 n)] [] []=some ⟨.c (.bool (n !=0)),[],true,[]⟩:=by kernel_rfl
  exact a5 t11 (by kernel_rfl) (by kernel_rfl) e rfl (by simp) (fun c _=>aF.nil)
 ·cases he
def s8:aQ:=fun args h=>
 match args,h with
 |[.agg [.int .i64 a,.int .i64 b,.int .i64 c,.int .i64 d],.agg [.int .i64 x,.int .i64 y,.int .i64 z,.int .i64 t]],[]=>
  some (.agg [.int .i64 ((a+x*30%31)%31),.int .i64 ((b+y*30%31)%31),.int .i64 ((c+z*30%31)%31),.int .i64 ((d+t*30%31)%31)],[],[fok a,fok x,fok b,fok y,fok c,fok z,fok d,fok t])
 |_,_=>none
def T12:List bF:=[⟨76,[],GC⟩,⟨216,[],PQ⟩]++T11
theorem e12:a8 Tryz.prog T12:=by
 refine a8.append ?_ e11
 intro e he
 simp only[List.mem_cons,List.not_mem_nil,or_false]at he
 rcases he with rfl|rfl
 ·exact m74
 ·exact a7T
theorem t12:bN Tryz.prog (aB T12):=aP e12
theorem a7I:aS Tryz.prog 186 s8:=by
 intro args h res h' o he ho
 unfold s8 at he
 split at he
 ·rename_i a b c d x y z t
  simp only[Option.some.injEq,Prod.mk.injEq]at he
  obtain⟨rfl,rfl,rfl⟩:=he
  have e:aG tt (aB T12) [] 100 Tryz.f186 [.agg [.int .i64 a,.int .i64 b,.int .i64 c,.int .i64 d],.agg [.int .i64 x,.int .i64 y,.int .i64 z,.int .i64 t]] [] []=
   some ⟨.agg [.int .i64 ((a+x*30%31)%31),.int .i64 ((b+y*30%31)%31),.int .i64 ((c+z*30%31)%31),.int .i64 ((d+t*30%31)%31)],[],
    (fok x&&(fok y&&(fok z&&(fok t&&(fok a&&(fok (x*30%31)&&(fok b&&(fok (y*30%31)&&(fok c&&(fok (z*30%31)&&(fok d&&(fok (t*30%31)&&true)))))))))))),[]⟩:=by kernel_rfl
  simp only[List.mem_cons,List.not_mem_nil,or_false,forall_eq_or_imp,forall_eq]at ho
  exact a5 t12 (by kernel_rfl) (by kernel_rfl) e (by simp[ho,c9]) (by simp) (fun c _=>aF.nil)
 ·cases he
end
section
def T13:List bF:=[⟨186,[],s8⟩]++T12
theorem e13:a8 Tryz.prog T13:=by
 refine a8.append ?_ e12
 intro e he
 simp only[List.mem_cons,List.not_mem_nil,or_false]at he
 subst he;exact a7I
theorem t13:bN Tryz.prog (aB T13):=aP e13
noncomputable abbrev f183:=Tryz.f215
noncomputable def r7 (nl:Option Bool) (cap:Option Nat) (v:List Int) (i:Int):St:=
 bA f183.ntmps [(0,.c (.view nl (.ints .i64 v) v.length 1 cap)),(1,.c (.fn 216 [])),(7,.c (.int .i64 v.length)),(8,.c (.int .i64 i))] []
noncomputable def Q1:St:=bA f183.ntmps [] []
noncomputable def Q4 (i:Int):St:=bA f183.ntmps [(4,.c (.int .i64 i))] []
section
variable (nl : Option Bool) (cap : Option Nat) (v : List Int) (i : Int)
theorem TH:aH 0 (aA f183 0) (aD f183 0) (aK tt (aB T13) [] 0 100 (a6 0 (a7 f183)) (r7 nl cap v i) [(0,true),(0,true)])=
  some (.ret,(decide (i<v.length)&&(decide (0≤i)&&(decide (i<v.length)&&(decide (i.toNat<v.length)&&((v.getD i.toNat 0 !=0)&&true))))),[],Q4 i):=by kernel_rfl
theorem TJ:aH 0 (aA f183 0) (aD f183 0) (aK tt (aB T13) [] 0 100 (a6 0 (a7 f183)) (r7 nl cap v i) [(0,true),(0,false)])=
  some (.normal,(decide (i<v.length)&&(decide (0≤i)&&(decide (i<v.length)&&(decide (i.toNat<v.length)&&(!(v.getD i.toNat 0 !=0)&&true))))),[],r7 nl cap v (IntKind.i64.wrap (i+1))):=by kernel_rfl
theorem TK:aH 0 (aA f183 0) (aD f183 0) (aK tt (aB T13) [] 0 100 (a6 0 (a7 f183)) (r7 nl cap v i) [(0,false)])=
  some (.exit 0,(!decide (i<v.length)&&true),[],Q1):=by kernel_rfl
end
noncomputable def Y8:Option Nat→St
 |some j=>Q4 j
 |none=>Q1
theorem a63 (nl:Option Bool) (cap:Option Nat) (v:List Int) (hl:v.length≤274877906944):
  aW Tryz.prog 0 (.block 0 (.loop (a6 0 (a7 f183)))) (r7 nl cap v 0) fun e t=>e=r9 (dV (fun x=>x !=0) v)∧t=Y8 (dV (fun x=>x !=0) v):=by
 refine aW.roundsR hT t13 bM (m:=0) (id:=0) (body:=a6 0 (a7 f183)) (α:=Nat)
  (fun i=>i≤v.length∧dE (fun x=>x !=0) v (v.length-i) i=dV (fun x=>x !=0) v) (fun i=>r7 nl cap v i) (fun i=>v.length-i) (aA f183 0) (aD f183 0)
  (fun _=>r9 (dV (fun x=>x !=0) v)) (fun _=>Y8 (dV (fun x=>x !=0) v)) (fun _=>[]) (fun _ _=>aF.nil) (fun i hx=> ?_) 0 ⟨by simp,rfl⟩
 obtain⟨h1,h3⟩:=hx
 by_cases hi:i<v.length
 ·have hk:v.length-i=(v.length-(i+1))+1:=by omega
  rw[hk]at h3
  simp only[dE]at h3
  cases hz:(v.getD i 0 !=0)with
  |false=>
   rw[hz]at h3
   refine⟨_,_,_,_,_,_,TJ nl cap v i, ?_,by simp,.inl ⟨rfl,i+1,⟨by omega,by simpa using h3⟩,by omega, ?_,rfl,rfl⟩⟩
   ·rw[Int.toNat_natCast,hz];simp[hi]
   ·rw[aE (by omega) (by omega)];simp
  |true=>
   rw[hz]at h3
   simp only[cond_true]at h3
   refine⟨_,_,_,_,_,_,TH nl cap v i, ?_,by simp,.inr (.inr ⟨by simp,by simp, ?_, ?_⟩)⟩
   ·rw[Int.toNat_natCast,hz];simp[hi]
   ·rw[←h3];rfl
   ·rw[←h3];rfl
 ·have hz:v.length-i=0:=by omega
  rw[hz]at h3
  simp only[dE]at h3
  exact⟨_,_,_,_,_,_,TK nl cap v i,by simp;omega,by simp,.inr (.inl ⟨rfl,by rw[←h3];rfl,by rw[←h3];rfl⟩)⟩
def wO:aQ:=fun args h=>
 match args,h with
 |[.c (.view nl (.ints .i64 v) len 1 cap),.c (.fn 216 [])],[]=>some (.c (.int .i64 (cV (fun x=>x !=0) v)),[],[decide (v.length≤274877906944)])
 |_,_=>none
theorem a7S:aS Tryz.prog 215 wO:=by
 intro args h res h' o he ho
 unfold wO at he
 split at he
 ·rename_i nl v len cap
  simp only[Option.some.injEq,Prod.mk.injEq]at he
  obtain⟨rfl,rfl,rfl⟩:=he
  have o1:v.length≤274877906944:=by simpa using ho
  refine bE.len ⟨f183,by kernel_rfl,by kernel_rfl,by kernel_rfl⟩ fun hlen=> ?_
  simp only[List.mem_cons,List.not_mem_nil,or_false,forall_eq_or_imp,forall_eq,AV.lenOk,aJ.lenOk,Con.size,Nat.mul_one]at hlen
  obtain⟨rfl,-⟩:=hlen
  have g:=a63 nl cap v o1
  unfold cV
  cases hx:dV (fun x=>x !=0) v with
  |none=>
   rw[hx]at g
   exact a5 t13 (fn:=f183) (lc:=[(0,⟨aA f183 0,r7 nl cap v 0,.normal,Q1⟩)]) (fuel:=100) (p:=[]) (o:=⟨_,_,true,[r7 nl cap v 0=r7 nl cap v 0]⟩)
    (by kernel_rfl) (by kernel_rfl) (by kernel_rfl) rfl (by simp) (fun cc hc=>aF.cons (c:=cc) (by cases hc;kernel_rfl) (by cases hc;exact g) aF.nil)
  |some j=>
   rw[hx]at g
   exact a5 t13 (fn:=f183) (lc:=[(0,⟨aA f183 0,r7 nl cap v 0,.ret,Q4 j⟩)]) (fuel:=100) (p:=[]) (o:=⟨_,_,true,[r7 nl cap v 0=r7 nl cap v 0]⟩)
    (by kernel_rfl) (by kernel_rfl) (by kernel_rfl) rfl (by simp) (fun cc hc=>aF.cons (c:=cc) (by cases hc;kernel_rfl) (by cases hc;exact g) aF.nil)
 ·cases he
def T14:List bF:=[⟨215,[],wO⟩]++T13
theorem e14:a8 Tryz.prog T14:=by
 refine a8.append ?_ e13
 intro e he
 simp only[List.mem_cons,List.not_mem_nil,or_false]at he
 subst he;exact a7S
theorem t14:bN Tryz.prog (aB T14):=aP e14
def xD:aQ:=fun args h=>
 match args,h with
 |[.agg [.int .i64 a,.int .i64 b,.int .i64 c,.int .i64 d]],[]=>some (.c (.int .i64 (cV (fun x=>x !=0) [a,b,c,d])),[],[])
 |_,_=>none
theorem a7H:aS Tryz.prog 185 xD:=by
 intro args h res h' o he ho
 unfold xD at he
 split at he
 ·rename_i a b c d
  simp only[Option.some.injEq,Prod.mk.injEq]at he
  obtain⟨rfl,rfl,rfl⟩:=he
  have e:aG tt (aB T14) [] 100 Tryz.f185 [.agg [.int .i64 a,.int .i64 b,.int .i64 c,.int .i64 d]] [] []=some ⟨.c (.int .i64 (cV (fun x=>x !=0) [a,b,c,d])),[],true,[]⟩:=by kernel_rfl
  exact a5 t14 (by kernel_rfl) (by kernel_rfl) e rfl (by simp) (fun c _=>aF.nil)
 ·cases he
end
section
def T15:List bF:=[⟨185,[],xD⟩]++T14
theorem e15:a8 Tryz.prog T15:=by
 refine a8.append ?_ e14
 intro e he
 simp only[List.mem_cons,List.not_mem_nil,or_false]at he
 subst he;exact a7H
theorem t15:bN Tryz.prog (aB T15):=aP e15
def AC (k a:Int):List Int:=[(aL k a).getD 0 0,(aL k a).getD 1 0,(aL k a).getD 2 0,(aL k a).getD 3 0]
def jM (k:Int) (v:List Int):Nat→Nat→List Int
 |0,_=>[]
 |m+1,i=>AC k (v.getD i 0)++jM k v m (i+1)
def cG (k:Int) (v:List Int):List Int:=jM k v v.length 0
def aM (v:List Int):Bool:=v.all fun a=>bet a 0 7
theorem cD {v:List Int} (h:aM v=true) {i:Nat} (hi:i<v.length):bet (v.getD i 0) 0 7=true:=by
 rw[List.getD_eq_getElem?_getD,List.getElem?_eq_getElem hi]
 exact List.all_eq_true.1 h _ (List.getElem_mem hi)
noncomputable abbrev f160:=Tryz.f183
noncomputable def yO (nl:Option Bool) (cap:Option Nat) (k:Int) (v:List Int) (i:Int) (n:Nat) (out:List Int):St:=
 bA f160.ntmps [(0,.c (.int .i64 k)),(5,.c (.sl 0 0 n 4 none)),(11,.c (.view nl (.ints .i64 v) v.length 1 cap)),(12,.c (.int .i64 v.length)),(13,.c (.int .i64 i))] [.live (.ints .i64 out)]
noncomputable def L6 (n:Nat) (out:List Int):St:=bA f160.ntmps [(5,.c (.sl 0 0 n 4 none))] [.live (.ints .i64 out)]
section
variable (nl : Option Bool) (cap : Option Nat) (k : Int) (v : List Int) (i : Int) (n : Nat) (out : List Int)
theorem SY:aH 0 (aA f160 0) (aD f160 0) (aK tt (aB T15) [] 0 100 (a6 0 (a7 f160)) (yO nl cap k v i n out) [(0,true)])=
  some (.normal,(decide (i<v.length)&&(decide (0≤i)&&(decide (i<v.length)&&(decide (i.toNat<v.length)&&(bet k 1 2&&(bet (v.getD i.toNat 0) 0 7&&(decide (ix n 4 0=out.length)&&(decide (n+1≤274877906944)&&true)))))))),[],
   yO nl cap k v (IntKind.i64.wrap (i+1)) (n+1) (out++AC k (v.getD i.toNat 0))):=by kernel_rfl
theorem SZ:aH 0 (aA f160 0) (aD f160 0) (aK tt (aB T15) [] 0 100 (a6 0 (a7 f160)) (yO nl cap k v i n out) [(0,false)])=
  some (.exit 0,(!decide (i<v.length)&&true),[],L6 n out):=by kernel_rfl
end
theorem a5Y (nl:Option Bool) (cap:Option Nat) (k:Int) (v:List Int) (hl:v.length≤274877906944) (hk:bet k 1 2=true) (hv:aM v=true):
  aW Tryz.prog 0 (.block 0 (.loop (a6 0 (a7 f160)))) (yO nl cap k v 0 0 []) fun e t=>e=.normal∧t=L6 v.length (cG k v):=by
 refine aW.roundsN hT t15 bM (m:=0) (id:=0) (body:=a6 0 (a7 f160)) (α:=Nat×List Int)
  (fun x=>x.1≤v.length∧x.2.length=x.1*4∧x.2++jM k v (v.length-x.1) x.1=cG k v) (fun x=>yO nl cap k v x.1 x.1 x.2) (fun x=>v.length-x.1) (aA f160 0) (aD f160 0)
  (fun _=>L6 v.length (cG k v)) (fun _=>[]) (fun _ _=>aF.nil) (fun x hx=> ?_) (0,[]) ⟨by simp,rfl,rfl⟩
 obtain⟨i,out⟩:=x
 obtain⟨h1,h2,h3⟩:=hx
 dsimp only at h1 h2 h3⊢
 by_cases hi:i<v.length
 ·have hkk:v.length-i=(v.length-(i+1))+1:=by omega
  rw[hkk]at h3
  simp only[jM]at h3
  refine⟨_,_,_,_,_,_,SY nl cap k v i i out, ?_,by simp,.inl ⟨rfl,(i+1,out++AC k (v.getD i 0)),⟨by omega,by simp[h2,AC];omega,by simpa using h3⟩,by dsimp only;omega, ?_,rfl⟩⟩
  ·rw[Int.toNat_natCast,hk,cD hv hi,dI];simp;omega
  ·rw[aE (by omega) (by omega),Int.toNat_natCast];simp
 ·have hz:v.length-i=0:=by omega
  rw[hz]at h3
  simp only[jM,List.append_nil]at h3
  have e:i=v.length:=by omega
  exact⟨_,_,_,_,_,_,SZ nl cap k v i i out,by simp;omega,by simp,.inr ⟨rfl,by rw[←h3,e]⟩⟩
def BS:aQ:=fun args h=>
 match args,h with
 |[.c (.int .i64 k),.c (.view nl (.ints .i64 v) len 1 cap)],[]=>
  some (.c (.sl 0 0 v.length 4 none),[.live (.ints .i64 (cG k v))],[decide (v.length≤274877906944),bet k 1 2,aM v])
 |_,_=>none
theorem a7F:aS Tryz.prog 183 BS:=by
 intro args h res h' o he ho
 unfold BS at he
 split at he
 ·rename_i k nl v len cap
  simp only[Option.some.injEq,Prod.mk.injEq]at he
  obtain⟨rfl,rfl,rfl⟩:=he
  simp only[List.mem_cons,List.not_mem_nil,or_false,forall_eq_or_imp,forall_eq,decide_eq_true_eq]at ho
  obtain⟨o1,o2,o3⟩:=ho
  refine bE.len ⟨f160,by kernel_rfl,by kernel_rfl,by kernel_rfl⟩ fun hlen=> ?_
  simp only[List.mem_cons,List.not_mem_nil,or_false,forall_eq_or_imp,forall_eq,AV.lenOk,aJ.lenOk,Con.size,Nat.mul_one]at hlen
  obtain⟨-,rfl⟩:=hlen
  exact a5 t15 (fn:=f160) (lc:=[(0,⟨aA f160 0,yO nl cap k v 0 0 [],.normal,L6 v.length (cG k v)⟩)]) (fuel:=100) (p:=[])
   (o:=⟨_,_,decide (0≤(v.length:Int))&&(decide ((v.length:Int)≤274877906944)&&true),[yO nl cap k v 0 0 []=yO nl cap k v 0 0 []]⟩)
   (by kernel_rfl) (by kernel_rfl) (by kernel_rfl) (by simp;omega) (by simp) (fun cc hc=>aF.cons (c:=cc) (by cases hc;kernel_rfl) (by cases hc;exact a5Y nl cap k v o1 o2 o3) aF.nil)
 ·cases he
end
section
def zZ (es len n:Nat):Nat:=match es with
 |1=>n
 |_=>len
theorem F6 (es len n:Nat):zZ es (zZ es len n) n=zZ es len n:=by
 unfold zZ;split<;>simp
theorem E7 {es len n:Nat} (h:len*es=n):zZ es len n=len:=by
 unfold zZ;split<;>omega
def aJ.norm:aJ→aJ
 |.view _ c len es _=> .view none c (zZ es len c.size) es none
 |x=>x
def bI:List aJ→List aJ
 |[]=>[]
 |x::r=>x.norm::bI r
def AV.norm:AV→AV
 |.c x=> .c x.norm
 |.agg cs=> .agg (bI cs)
 |x=>x
def bG:List AV→List AV
 |[]=>[]
 |x::r=>x.norm::bG r
theorem aJ.norm_norm (x:aJ):x.norm.norm=x.norm:=by
 cases x<;>simp[aJ.norm,F6]
theorem qQ: ∀l:List aJ,bI (bI l)=bI l
 |[]=>rfl
 |x::r=>by simp[bI,aJ.norm_norm,qQ r]
theorem AV.norm_norm (x:AV):x.norm.norm=x.norm:=by
 cases x<;>simp[AV.norm,aJ.norm_norm,qQ]
theorem qP: ∀l:List AV,bG (bG l)=bG l
 |[]=>rfl
 |x::r=>by simp[bG,AV.norm_norm,qP r]
theorem pI: ∀l:List aJ,(bI l).length=l.length
 |[]=>rfl
 |x::r=>by simp[bI,pI r]
theorem pH: ∀l:List AV,(bG l).length=l.length
 |[]=>rfl
 |x::r=>by simp[bG,pH r]
theorem tI: ∀(l:List aJ) (i:Nat),(bI l).getD i .any=(l.getD i .any).norm
 |[],i=>by simp[bI,aJ.norm]
 |x::r,0=>by simp[bI]
 |x::r,i+1=>by simpa [bI]using tI r i
theorem tH: ∀(l:List AV) (i:Nat),(bG l).getD i .any=(l.getD i .any).norm
 |[],i=>by simp[bG,AV.norm]
 |x::r,0=>by simp[bG]
 |x::r,i+1=>by simpa [bG]using tH r i
theorem CR0.norm {w:World} {L:Nat→Prop} {ρ:Rho} {c:aJ} {v:Value} (h:CR0 w L ρ c v):CR0 w L ρ c.norm v:=by
 have h0:=h
 cases h with
 |view nl c len es cap b base k u hl hc hu hz hk hcap hnl=>
  simp only[aJ.norm]
  rw[E7 hz]
  exact .view none _ _ _ none b base k u hl hc hu hz hk (fun _ h=>by cases h) (fun _ h=>by cases h)
 |viewNone nl c es cap a k hz hcap hnl hk=>
  simp only[aJ.norm]
  rw[E7 (by rw[hz];simp)]
  exact .viewNone none c es none a k hz (fun _ h=>by cases h) (fun _ h=>by cases h) hk
 |_=>exact h0
theorem AVR.norm {X:Nat→Prop} {w:World} {ρ:Rho} {x:AV} {v:Value} (h:AVR X w ρ x v):AVR X w ρ x.norm v:=by
 cases h with
 |any=>exact .any v
 |c x v h=>exact .c _ _ (CR0.norm h)
 |agg cs vs hs h=>
  exact .agg _ _ (by rw[pI];exact hs) fun i hi=>by
   rw[pI]at hi;rw[tI];exact CR0.norm (h i hi)
 |tup l vs hs h=>exact .tup l vs hs h
def nm (G:aQ):aQ:=fun args h=>G (bG args) h
def aV (P:Program) (f:FuncId) (G:aQ):Prop:= ∀args h res h' o,bG args=args→G args h=some (res,h',o)→(∀b∈o,b=true)→bE P f args h res h'
theorem aV.ok {P:Program} {f:FuncId} {G:aQ} (hg:aV P f G):aS P f (nm G):=by
 intro args h res h' o he ho
 have hm:=hg (bG args) h res h' o (qP args) he ho
 refine⟨hm.1,fun {X w0 ρ0} m vs hl hv=>hm.2 m vs (by rw[pH];exact hl) fun q hq=> ?_⟩
 rw[pH]at hq
 rw[tH]
 exact(hv q hq).norm
mutual
def vwA (get:Get):AV→Option (AV×List Bool)
 |.any=>some (.any,[])
 |.c x=>(froz get x).map fun(y,_,o)=>(.c y,o)
 |.agg cs=>(fG get cs).map fun(y,_,o)=>(.agg y,o)
 |.tup vs=>(vwT get vs).map fun(y,o)=>(.tup y,o)
def vwT (get:Get):List AV→Option (List AV×List Bool)
 |[]=>some ([],[])
 |x::r=>match vwA get x,vwT get r with
  |some (y,o),some (ys,o')=>some (y::ys,o++o')
  |_,_=>none
end
section
variable {X : Nat → Prop} {w0 w : World} {h : List b9} {ρ ρ0 : Rho} (m : Mem X w0 (bL ρ0) h ρ w) (hun : ∀ id, ρ0 id = .unborn)
include m hun
theorem vQ {x y:aJ} {s:List (Nat×b9)} {o:List Bool} {v:Value} (hf:froz (Heap.get h) x=some (y,s,o)) (ho: ∀b∈o,b=true) (hx:CR X w ρ x v):CR X w ρ0 y v:=by
 have hnl: ∀b, ¬bL ρ0 b:=fun b ⟨id,h⟩=>by rw[hun id]at h;cases h
 have mb2:eH w (fun b=>bL ρ b∨X b) w (fun b=>bL ρ0 b∨X b):=⟨fun _ _ _=>rfl,fun _ _=>rfl,Nat.le_refl _,fun b hb=> .inl (hb.elim (fun h=>absurd h (hnl b)) .inr)⟩
 unfold froz at hf
 split at hf
 ·rename_i id len es cap
  split at hf
  ·rename_i c hs
   cases hfr:c.free with
   |false=>rw[hfr]at hf;cases hf
   |true=>
    rw[hfr]at hf
    injection hf with hf;injection hf with e1 e2;injection e2 with e2 e3;subst e1 e2 e3
    have hz:len*es=c.size:=by simpa [dI]using ho _ (List.mem_singleton.2 rfl)
    rcases d7 m hs hx with⟨b,k,ty,n,hb,rfl,⟨cs,ty',hrow,hsz,hcs⟩,hsh,hn,hl',hcap⟩|⟨a,rfl,rfl,hcap⟩
    ·rw[Nat.zero_mul]
     refine .view none c len es cap b 0 k (fun q=>cs.getD q undef) (fun _ h=> ?_) (fun q hq=> ?_) (fun q hq=>((hcs q hq).free (eT hfr q)).mono mb2 (cF.noIds _)) hz hl' hcap (fun _ h=>by cases h)
     ·rcases h with h|h
      ·exact hnl b h
      ·exact m.notX hb h
     ·have hq':q<cs.size:=by omega
      simp[World.cell?,hrow,Array.getD,hq']
    ·exact .viewNone none c es cap a 0 (by omega) hcap (fun _ h=>by cases h) (fun _=>rfl)
  ·cases hf
 ·cases hf
 ·cases hf
 ·cases hf
 ·rename_i h1 h2 h3 h4
  injection hf with hf;injection hf with e1 e2;subst e1
  refine CR0.lift ((CR0.free hx ?_).mono mb2 (cF.refl _))
  cases x<;>first|rfl|skip
  ·exact absurd rfl (h3 _ _ _ _)
  ·exact absurd rfl (h2 _ _ _ _ _)
  ·rename_i f caps
   cases caps with
   |nil=>rfl
   |cons x r=>exact absurd rfl (h4 _ _ _)
theorem nL: ∀ {l l':List aJ} {s:List (Nat×b9)} {o:List Bool} (f:Nat→Value),fG (Heap.get h) l=some (l',s,o)→(∀b∈o,b=true)→(∀i,i<l.length→CR X w ρ (l.getD i .any) (f i))→
  l'.length=l.length∧ ∀i,i<l.length→CR X w ρ0 (l'.getD i .any) (f i)
 |[],l',s,o,f,hf,_,_=>by
  injection hf with hf;injection hf with h1 h2;subst h1
  exact⟨rfl,fun q hq=>by simp at hq⟩
 |x::r,l',s,o,f,hf,ho,hx=>by
  simp only[fG]at hf
  split at hf
  ·rename_i y s1 o1 ys s2 o2 e1 e2
   injection hf with hf;injection hf with h1 h2;injection h2 with h2 h3;subst h1 h2 h3
   obtain⟨g1,g2⟩:=nL (fun q=>f (q+1)) e2 (fun b hb=>ho b (List.mem_append_right _ hb)) (fun q hq=>by simpa using hx (q+1) (by simpa using hq))
   refine⟨by simp[g1],fun q hq=> ?_⟩
   cases q with
   |zero=>simpa using vQ m hun e1 (fun b hb=>ho b (List.mem_append_left _ hb)) (by simpa using hx 0 (by simp))
   |succ q=>simpa using g2 q (by simpa using hq)
  ·cases hf
mutual
theorem AX: ∀ {x y:AV} {o:List Bool} {v:Value},vwA (Heap.get h) x=some (y,o)→(∀b∈o,b=true)→AVR X w ρ x v→AVR X w ρ0 y v
 |.any,y,o,v,hf,ho,hx=>by
  simp only[vwA,Option.some.injEq,Prod.mk.injEq]at hf
  obtain⟨rfl,rfl⟩:=hf;exact .any v
 |.c x,y,o,v,hf,ho,hx=>by
  simp only[vwA]at hf
  obtain⟨⟨y',s,o'⟩,h1,h2⟩:=Option.map_eq_some_iff.1 hf
  simp only[Prod.mk.injEq]at h2
  obtain⟨rfl,rfl⟩:=h2
  cases hx with
  |c x v hx=>exact .c _ _ (vQ m hun h1 ho hx)
 |.agg cs,y,o,v,hf,ho,hx=>by
  simp only[vwA]at hf
  obtain⟨⟨y',s,o'⟩,h1,h2⟩:=Option.map_eq_some_iff.1 hf
  simp only[Prod.mk.injEq]at h2
  obtain⟨rfl,rfl⟩:=h2
  cases hx with
  |agg cs vs hs hx=>
   obtain⟨g1,g2⟩:=nL m hun (fun i=>vs.getD i undef) h1 ho hx
   exact .agg _ _ (by rw[g1];exact hs) fun i hi=>g2 i (by rw[←g1];exact hi)
 |.tup l,y,o,v,hf,ho,hx=>by
  simp only[vwA]at hf
  obtain⟨⟨y',o'⟩,h1,h2⟩:=Option.map_eq_some_iff.1 hf
  simp only[Prod.mk.injEq]at h2
  obtain⟨rfl,rfl⟩:=h2
  cases hx with
  |tup l vs hs hx=>
   obtain⟨g1,g2⟩:=AY (fun i=>vs.getD i undef) h1 ho hx
   exact .tup _ _ (by rw[g1];exact hs) fun i hi=>g2 i (by rw[←g1];exact hi)
theorem AY: ∀ {l l':List AV} {o:List Bool} (f:Nat→Value),vwT (Heap.get h) l=some (l',o)→(∀b∈o,b=true)→(∀i,i<l.length→AVR X w ρ (l.getD i (.tup [])) (f i))→
  l'.length=l.length∧ ∀i,i<l.length→AVR X w ρ0 (l'.getD i (.tup [])) (f i)
 |[],l',o,f,hf,_,_=>by
  simp only[vwT,Option.some.injEq,Prod.mk.injEq]at hf
  obtain⟨rfl,rfl⟩:=hf
  exact⟨rfl,fun q hq=>by simp at hq⟩
 |x::r,l',o,f,hf,ho,hx=>by
  simp only[vwT]at hf
  split at hf
  ·rename_i y o1 ys o2 e1 e2
   injection hf with hf;injection hf with h1 h2;subst h1 h2
   obtain⟨g1,g2⟩:=AY (fun q=>f (q+1)) e2 (fun b hb=>ho b (List.mem_append_right _ hb)) (fun q hq=>by simpa using hx (q+1) (by simpa using hq))
   refine⟨by simp[g1],fun q hq=> ?_⟩
   cases q with
   |zero=>simpa using AX e1 (fun b hb=>ho b (List.mem_append_left _ hb)) (by simpa using hx 0 (by simp))
   |succ q=>simpa using g2 q (by simpa using hq)
  ·cases hf
end
end
theorem bE.views {P:Program} {f:FuncId} {args:List AV} {res res':AV} {h':List b9} {o:List Bool} (hm:bE P f args [] res h') (hv:vwA (Heap.get h') res=some (res',o)) (ho: ∀b∈o,b=true):
  bE P f args [] res' []:=by
 refine⟨hm.1,fun {X w0 ρ0} m vs hl hva=> ?_⟩
 refine Calls.mono (hm.2 m vs hl hva) ?_
 rintro e w' ⟨v,ρ',rfl,mb,im,m',hr⟩
 have hun: ∀id,ρ0 id=.unborn:=fun id=>by
  have hs:=m.slot id
  rw[Heap.get_ge (by simp)]at hs
  cases hx:ρ0 id<;>rw[hx]at hs<;>first|rfl|exact hs.elim
 have hr':=AX m' hun hv ho hr
 refine⟨v,ρ0,rfl,⟨mb.keep,mb.shape,mb.size,fun b hb=> .inl hb⟩,cF.refl _,⟨fun id=> ?_,(fun i j b hi _=>absurd (hun i) (by rw[hi];simp)),(fun id b hb=>absurd (hun id) (by rw[hb];simp)),m'.os,m'.tape,m'.output,m'.size,m'.keep,m'.foreign⟩,hr'⟩
 rw[Heap.get_ge (by simp),hun id];trivial
def dZ (tt:Tab) (ct:CT) (fn:Func) (p:iM):aQ:=fun args h=>
 match aG tt ct [] 1000 fn args h p with
 |some ⟨res,h',b,[]⟩=>some (res,h',[b])
 |_=>none
theorem d6 {P:Program} {tt:Tab} (hT:jA P tt) {ct:CT} (hct:bN P ct) (bM:P.follows .mixedOrders=true) {f:FuncId} {fn:Func} (p:iM) (hf:P.funcs[f]? =some fn)
  (hnm:(fn.name== "runtime.NumGoroutine")=false):aS P f (dZ tt ct fn p):=by
 intro args h res h' o he ho
 unfold dZ at he
 split at he
 ·rename_i r hh b e
  injection he with he;injection he with e1 e2;injection e2 with e2 e3;subst e1 e2 e3
  exact qG hT hct bM (p:=p) hf hnm e (ho _ (List.mem_singleton.2 rfl)) (fun q hq=>by cases hq) (fun c _=>aF.nil)
 ·cases he
end
section
theorem aN (n m:Nat):zZ 1 n m=m:=rfl
theorem cX.trans {m:Nat} {s t u:St} (a:cX m s t) (b:cX m t u):cX m s u:=fun X w0 ρ0 ρ ac w h0 r=>by
 obtain⟨ρ',r'⟩:=a h0 r
 exact b h0 r'
theorem aW.pre {P:Program} {m:Nat} {c:Code} {s t:St} {Q:Ex→St→Prop} (g:aW P m c t Q) (h:cX m s t):aW P m c s Q:=fun X w0 ρ0 ρ a w h0 r=>by
 obtain⟨ρ',r'⟩:=h h0 r
 exact g h0 r'
def lU (id es:Nat):List aJ→Nat→List aJ
 |[],_=>[]
 |x::r,0=>(match x with|.nils=> .sl id 0 0 es none|x=>x)::r
 |x::r,q+1=>x::lU id es r q
theorem w5 (id es:Nat): ∀(l:List aJ) (q:Nat),(lU id es l q).length=l.length
 |[],_=>rfl
 |x::r,0=>by simp[lU]
 |x::r,q+1=>by simp[lU,w5 id es r q]
theorem w4 (id es:Nat): ∀(l:List aJ) (q i:Nat),(lU id es l q).getD i .any=l.getD i .any∨(l.getD i .any=.nils∧(lU id es l q).getD i .any=.sl id 0 0 es none)
 |[],_,i=> .inl rfl
 |x::r,0,0=>by
  cases x<;>first|exact .inl rfl|exact .inr ⟨rfl,rfl⟩
 |x::r,0,i+1=> .inl (by simp[lU])
 |x::r,q+1,0=> .inl (by simp[lU])
 |x::r,q+1,i+1=>by simpa [lU]using w4 id es r q i
def nilH (r q es:Nat) (c0:Con) (s:St):St:=
 {s with heap:=(match Heap.get s.heap r with|.live (.cells cs)=>s.heap.set r (.live (.cells (lU s.heap.length es cs q)))|_=>s.heap)++[.live c0]}
section
variable {X : Nat → Prop} {w0 w : World} {ρ0 ρ : Rho}
theorem fY (w:World) {ρ:Rho} {id:Nat} (hid:ρ id=.unborn):bT w ρ w (upd ρ id .nil):=by
 refine⟨fun _ _ _=>rfl,fun _ _=>rfl,Nat.le_refl _,fun j hj=> ?_,fun j hj=> ?_,fun j b hj=> ?_,fun j b hj=> ?_⟩
 ·rw[bK _ _ (fun e=>by rw[e,hid]at hj;cases hj)];exact hj
 ·rw[bK _ _ (fun e=>by rw[e,hid]at hj;cases hj)];exact .inl hj
 ·rw[bK _ _ (fun e=>by rw[e,hid]at hj;cases hj)];exact .inl hj
 ·by_cases e:j=id
  ·subst e;rw[bC]at hj;cases hj
  ·rw[bK _ _ e]at hj;exact .inl ⟨j,hj⟩
theorem iX {id es:Nat} {v:Value} (h:CR X w ρ .nils v):CR X w (upd ρ id .nil) (.sl id 0 0 es none) v:=by
 cases h
 exact .slNone id 0 es none none (by rw[bC];simp) (fun _ h=>by cases h)
theorem Rel.nil {s:St} {a:Act} (r:Rel X w0 ρ0 s ρ a w) {c0:Con} (hc:c0.size=0) {T:List AV} {H:List b9} (hTl:T.length=s.tmps.length) (hHl:H.length=s.heap.length)
  (hT: ∀t,t<s.tmps.length→T.getD t (.tup [])=s.tmps.getD t (.tup [])∨ ∃es,s.tmps.getD t (.tup [])=.c .nils∧T.getD t (.tup [])=.c (.sl s.heap.length 0 0 es none))
  (hH: ∀id,Heap.get H id=Heap.get s.heap id∨ ∃cs cs',Heap.get s.heap id=.live (.cells cs)∧Heap.get H id=.live (.cells cs')∧cs'.length=cs.length∧
   ∀i,cs'.getD i .any=cs.getD i .any∨ ∃es,cs.getD i .any=.nils∧cs'.getD i .any=.sl s.heap.length 0 0 es none):
  Rel X w0 ρ0 ⟨T,H++[.live c0]⟩ (upd ρ s.heap.length .nil) a w:=by
 have hun:ρ s.heap.length=.unborn:=by
  have hs:=r.mem.slot s.heap.length
  rw[Heap.get_ge (Nat.le_refl _)]at hs
  cases hx:ρ s.heap.length<;>rw[hx]at hs<;>first|rfl|exact hs.elim
 have mo:=fY w hun
 refine⟨by rw[hTl];exact r.size,fun t ht=> ?_,⟨fun id=> ?_,fun i j b hi hj=> ?_,fun id b hb=> ?_,r.mem.os,r.mem.tape,r.mem.output,r.mem.size,r.mem.keep,r.mem.foreign⟩,r.defers,
  r.mono.trans mo.toB,r.ids.trans mo.ids⟩
 ·dsimp only at ht⊢
  rw[hTl]at ht
  rcases hT t ht with e|⟨es,e1,e2⟩
  ·rw[e];exact(r.tmps t ht).mono mo
  ·have h:=r.tmps t ht
   rw[e1]at h
   rw[e2]
   cases h with
   |c x v h=>exact .c _ _ (iX h)
 ·by_cases e:id=s.heap.length
  ·subst e
   have:Heap.get (H++[.live c0]) s.heap.length=.live c0:=by
    unfold Heap.get
    rw[List.getD_eq_getElem?_getD,List.getElem?_append_right (by omega),hHl];simp
   rw[this,bC];exact hc
  ·have hg:Heap.get (H++[.live c0]) id=Heap.get H id:=by
    unfold Heap.get
    rw[List.getD_eq_getElem?_getD,List.getD_eq_getElem?_getD,List.getElem?_append]
    split
    ·rfl
    ·rw[List.getElem?_eq_none (l:=H) (by omega),List.getElem?_eq_none (by simp;omega)]
   rw[hg,bK _ _ e]
   have hs:=r.mem.slot id
   rcases hH id with e1|⟨cs,cs',e1,e2,e3,e4⟩
   ·rw[e1];exact hs.mono mo fun _ _=>rfl
   ·rw[e1]at hs
    rw[e2]
    cases hx:ρ id with
    |unborn=>rw[hx]at hs;exact hs.elim
    |dead=>rw[hx]at hs;exact hs.elim
    |nil=>rw[hx]at hs;simp only[dW,Con.size]at hs⊢;omega
    |row b=>
     rw[hx]at hs
     obtain⟨vs,ty,h1,h2,h3⟩:=hs
     refine⟨vs,ty,h1,by simp only[Con.size]at h2⊢;omega,fun q hq=> ?_⟩
     have h:=h3 q (by simp only[Con.size]at hq⊢;omega)
     simp only[Con.cell]at h⊢
     rcases e4 q with e5|⟨es,e5,e6⟩
     ·rw[e5];exact h.mono mo
     ·rw[e5]at h;rw[e6];exact iX h
 ·by_cases e:i=s.heap.length
  ·subst e;rw[bC]at hi;cases hi
  ·by_cases e':j=s.heap.length
   ·subst e';rw[bC]at hj;cases hj
   ·rw[bK _ _ e]at hi;rw[bK _ _ e']at hj
    exact r.mem.inj i j b hi hj
 ·by_cases e:id=s.heap.length
  ·subst e;rw[bC]at hb;cases hb
  ·rw[bK _ _ e]at hb;exact r.mem.own id b hb
theorem cX.nilH (m r q es:Nat) (c0:Con) (hc:c0.size=0) (s:St):cX m s (Am.nilH r q es c0 s):=fun X w0 ρ0 ρ a w h0 rl=>by
 refine⟨_,Rel.nil rl hc rfl ?_ (fun t ht=> .inl rfl) (fun id=> ?_)⟩
 ·split<;>simp
 ·split
  ·rename_i cs hg
   rw[Heap.get_set]
   by_cases e:id=r∧r<s.heap.length
   ·rw[if_pos e]
    obtain⟨rfl,hlt⟩:=e
    refine .inr ⟨cs,_,hg,rfl,w5 _ _ _ _,fun i=> ?_⟩
    rcases w4 s.heap.length es cs q i with h|⟨h1,h2⟩
    ·exact .inl h
    ·exact .inr ⟨es,h1,h2⟩
   ·rw[if_neg e];exact .inl rfl
  ·exact .inl rfl
end
end
section
def T16:List bF:=[⟨183,[],BS⟩]++T15
theorem e16:a8 Tryz.prog T16:=by
 refine a8.append ?_ e15
 intro e he
 simp only[List.mem_cons,List.not_mem_nil,or_false]at he
 subst he;exact a7F
theorem t16:bN Tryz.prog (aB T16):=aP e16
def ldK (xs:List Int) (i:Nat):Int:=cV (fun x=>x !=0) [xs.getD (i*12) 0,xs.getD (i*12+1) 0,xs.getD (i*12+2) 0,xs.getD (i*12+3) 0]
def cK (xs:List Int) (i:Nat) (k:List Int):Int:=[k.getD 0 0,k.getD 1 0,k.getD 2 0,k.getD 3 0,k.getD 4 0,k.getD 5 0,k.getD 6 0,k.getD 7 0,k.getD 8 0,k.getD 9 0,k.getD 10 0,k.getD 11 0].getD (ldK xs i).toNat 0
def vZ (xs:List Int) (i:Nat) (k:List Int) (j:Nat):Int:=(k.getD j 0+xs.getD (i*12+j) 0*cK xs i k%31*30%31)%31
def lT (xs:List Int) (i:Nat) (k:List Int) (j:Nat):Int:=(k.getD j 0-xs.getD (i*12+j) 0*cK xs i k%31)%31
def zT (xs:List Int) (i:Nat) (k:List Int):List Int:=[vZ xs i k 0,vZ xs i k 1,vZ xs i k 2,vZ xs i k 3,lT xs i k 4,lT xs i k 5,lT xs i k 6,lT xs i k 7,lT xs i k 8,lT xs i k 9,lT xs i k 10,lT xs i k 11]
def pE (xs:List Int):Nat→Nat→List Int→List Int
 |0,_,k=>k
 |m+1,i,k=>pE xs m (i+1) (zT xs i k)
def fX (xs:List Int) (n:Nat) (k:List Int):List Int:=pE xs n 0 k
noncomputable abbrev f181:=Tryz.f213
noncomputable def yQ (n m:Nat) (xs ps:List Int) (i:Int) (k:List Int):St:=
 bA f181.ntmps [(3,.c (.ptr 3 0 0 0)),(4,.c (.ptr 4 0 0 0)),(12,.c (.sl 1 0 n 12 none)),(13,.c (.int .i64 n)),(14,.c (.int .i64 i))]
  [.live (.cells [.sl 1 0 n 12 none,.sl 2 0 m 1 none]),.live (.ints .i64 xs),.live (.ints .i64 ps),.live (.ints .i64 [k.getD 0 0,k.getD 1 0,k.getD 2 0,k.getD 3 0,k.getD 4 0,k.getD 5 0,k.getD 6 0,k.getD 7 0,k.getD 8 0,k.getD 9 0,k.getD 10 0,k.getD 11 0]),.live (.ints .i64 [0,0,0,0,0,0,0,0,0,0,0,0])]
noncomputable def LA (n m:Nat) (xs ps:List Int) (k:List Int):St:=
 bA f181.ntmps [(3,.c (.ptr 3 0 0 0)),(4,.c (.ptr 4 0 0 0))]
  [.live (.cells [.sl 1 0 n 12 none,.sl 2 0 m 1 none]),.live (.ints .i64 xs),.live (.ints .i64 ps),.live (.ints .i64 [k.getD 0 0,k.getD 1 0,k.getD 2 0,k.getD 3 0,k.getD 4 0,k.getD 5 0,k.getD 6 0,k.getD 7 0,k.getD 8 0,k.getD 9 0,k.getD 10 0,k.getD 11 0]),.live (.ints .i64 [0,0,0,0,0,0,0,0,0,0,0,0])]
theorem TF (n m:Nat) (xs ps:List Int) (i:Int) (k:List Int):aH 3 (aA f181 0) (aD f181 0) (aK tt (aB T16) [] 3 100 (a6 0 (a7 f181)) (yQ n m xs ps i k) [(0,true)])=
  some (.normal,(decide (i< ↑n)&&(decide (0≤i)&&(decide (i< ↑n)&&(decide (i.toNat*12+12≤xs.length)&&(decide (0≤ldK xs i.toNat)&&(decide (ldK xs i.toNat<4)&&(decide ((ldK xs i.toNat).toNat<[k.getD 0 0,k.getD 1 0,k.getD 2 0,k.getD 3 0,k.getD 4 0,k.getD 5 0,k.getD 6 0,k.getD 7 0,k.getD 8 0,k.getD 9 0,k.getD 10 0,k.getD 11 0].length)&&(fok (xs.getD (i.toNat*12) 0)&&(fok (cK xs i.toNat k)&&(fok (xs.getD (i.toNat*12+1) 0)&&(fok (cK xs i.toNat k)&&(fok (xs.getD (i.toNat*12+2) 0)&&(fok (cK xs i.toNat k)&&(fok (xs.getD (i.toNat*12+3) 0)&&(fok (cK xs i.toNat k)&&(fok (k.getD 0 0)&&(fok (xs.getD (i.toNat*12) 0*cK xs i.toNat k%31)&&(fok (k.getD 1 0)&&(fok (xs.getD (i.toNat*12+1) 0*cK xs i.toNat k%31)&&(fok (k.getD 2 0)&&(fok (xs.getD (i.toNat*12+2) 0*cK xs i.toNat k%31)&&(fok (k.getD 3 0)&&(fok (xs.getD (i.toNat*12+3) 0*cK xs i.toNat k%31)&&(fok (xs.getD (i.toNat*12+4) 0)&&(fok (cK xs i.toNat k)&&(fok (k.getD 4 0)&&(fok (xs.getD (i.toNat*12+4) 0*cK xs i.toNat k%31)&&(fok (xs.getD (i.toNat*12+5) 0)&&(fok (cK xs i.toNat k)&&(fok (k.getD 5 0)&&(fok (xs.getD (i.toNat*12+5) 0*cK xs i.toNat k%31)&&(fok (xs.getD (i.toNat*12+6) 0)&&(fok (cK xs i.toNat k)&&(fok (k.getD 6 0)&&(fok (xs.getD (i.toNat*12+6) 0*cK xs i.toNat k%31)&&(fok (xs.getD (i.toNat*12+7) 0)&&(fok (cK xs i.toNat k)&&(fok (k.getD 7 0)&&(fok (xs.getD (i.toNat*12+7) 0*cK xs i.toNat k%31)&&(fok (xs.getD (i.toNat*12+8) 0)&&(fok (cK xs i.toNat k)&&(fok (k.getD 8 0)&&(fok (xs.getD (i.toNat*12+8) 0*cK xs i.toNat k%31)&&(fok (xs.getD (i.toNat*12+9) 0)&&(fok (cK xs i.toNat k)&&(fok (k.getD 9 0)&&(fok (xs.getD (i.toNat*12+9) 0*cK xs i.toNat k%31)&&(fok (xs.getD (i.toNat*12+10) 0)&&(fok (cK xs i.toNat k)&&(fok (k.getD 10 0)&&(fok (xs.getD (i.toNat*12+10) 0*cK xs i.toNat k%31)&&(fok (xs.getD (i.toNat*12+11) 0)&&(fok (cK xs i.toNat k)&&(fok (k.getD 11 0)&&((fok (xs.getD (i.toNat*12+11) 0*cK xs i.toNat k%31))&&true))))))))))))))))))))))))))))))))))))))))))))))))))))))),[],yQ n m xs ps (IntKind.i64.wrap (i+1)) (zT xs i.toNat k)):=by kernel_rfl
theorem TG (n m:Nat) (xs ps:List Int) (i:Int) (k:List Int):aH 3 (aA f181 0) (aD f181 0) (aK tt (aB T16) [] 3 100 (a6 0 (a7 f181)) (yQ n m xs ps i k) [(0,false)])=
  some (.exit 0,((!decide (i< ↑n))&&true),[],LA n m xs ps k):=by kernel_rfl
def i7 (xs:List Int) (n:Nat):Bool:=cB (fun i=>bet (ldK xs i) 0 3) n
theorem a62 (n m:Nat) (xs ps:List Int) (k:List Int) (hn:n≤274877906944) (hx:xs.length=n*12) (hf:a9 xs=true) (hk:a9 k=true) (hl:i7 xs n=true):
  aW Tryz.prog 3 (.block 0 (.loop (a6 0 (a7 f181)))) (yQ n m xs ps 0 k) fun e t=>e=.normal∧t=LA n m xs ps (fX xs n k):=by
 refine aW.roundsN hT t16 bM (m:=3) (id:=0) (body:=a6 0 (a7 f181)) (α:=Nat×List Int)
  (fun x=>x.1≤n∧a9 x.2=true∧pE xs (n-x.1) x.1 x.2=fX xs n k) (fun x=>yQ n m xs ps x.1 x.2) (fun x=>n-x.1) (aA f181 0) (aD f181 0)
  (fun _=>LA n m xs ps (fX xs n k)) (fun _=>[]) (fun _ _=>aF.nil) (fun x hx=> ?_) (0,k) ⟨by simp,hk,rfl⟩
 obtain⟨i,k⟩:=x
 obtain⟨h1,h2,h3⟩:=hx
 dsimp only at h1 h2 h3⊢
 by_cases hi:i<n
 ·have hkk:n-i=(n-(i+1))+1:=by omega
  rw[hkk]at h3
  simp only[pE]at h3
  have hld:bet (ldK xs i) 0 3=true:=aY hl i hi
  have hld':=hld
  simp only[bet,Bool.and_eq_true,decide_eq_true_eq]at hld'
  have hc:fok (cK xs i k)=true:=aR (v:=[k.getD 0 0,k.getD 1 0,k.getD 2 0,k.getD 3 0,k.getD 4 0,k.getD 5 0,k.getD 6 0,k.getD 7 0,k.getD 8 0,k.getD 9 0,k.getD 10 0,k.getD 11 0]) (by simp[a9,aR h2,-List.getD_eq_getElem?_getD]) _
  refine⟨_,_,_,_,_,_,TF n m xs ps i k, ?_,by simp,.inl ⟨rfl,(i+1,zT xs i k),⟨by omega, ?_,h3⟩,by dsimp only;omega, ?_,rfl⟩⟩
  ·rw[Int.toNat_natCast]
   simp only[aR hf,aR h2,c9,hc,Bool.true_and,Bool.and_true,Bool.and_eq_true,decide_eq_true_eq,List.length_cons,List.length_nil]
   omega
  ·simp only[a9,zT,vZ,lT,List.all_cons,List.all_nil,c9,Bool.and_self]
  ·rw[aE (by omega) (by omega),Int.toNat_natCast];rfl
 ·have hz:n-i=0:=by omega
  rw[hz]at h3
  simp only[pE]at h3
  exact⟨_,_,_,_,_,_,TG n m xs ps i k,by simp;omega,by simp,.inr ⟨rfl,by rw[h3]⟩⟩
def QE (k:List Int):List aJ:=[.int .i64 (k.getD 0 0),.int .i64 (k.getD 1 0),.int .i64 (k.getD 2 0),.int .i64 (k.getD 3 0),.int .i64 (k.getD 4 0),.int .i64 (k.getD 5 0),.int .i64 (k.getD 6 0),.int .i64 (k.getD 7 0),.int .i64 (k.getD 8 0),.int .i64 (k.getD 9 0),.int .i64 (k.getD 10 0),.int .i64 (k.getD 11 0)]
def BF:aQ:=fun args h=>
 match args,h with
 |[.c (.ptr 0 0 0 0),.agg [.int .i64 k0,.int .i64 k1,.int .i64 k2,.int .i64 k3,.int .i64 b0,.int .i64 b1,.int .i64 b2,.int .i64 b3,.int .i64 b4,.int .i64 b5,.int .i64 b6,.int .i64 b7]],[.live (.cells [.sl 1 0 n 12 none,.sl 2 0 m 1 none]),.live (.ints .i64 xs),.live (.ints .i64 ps)]=>
  some (.agg (QE (fX xs n [k0,k1,k2,k3,b0,b1,b2,b3,b4,b5,b6,b7])),[.live (.cells [.sl 1 0 n 12 none,.sl 2 0 m 1 none]),.live (.ints .i64 xs),.live (.ints .i64 ps)],[decide (n≤274877906944),decide (xs.length=n*12),a9 xs,a9 [k0,k1,k2,k3,b0,b1,b2,b3,b4,b5,b6,b7],i7 xs n])
 |_,_=>none
theorem a7Q:aS Tryz.prog 213 BF:=by
 intro args h res h' o he ho
 unfold BF at he
 split at he
 case h_2=>cases he
 rename_i k0 k1 k2 k3 b0 b1 b2 b3 b4 b5 b6 b7 n m xs ps
 simp only[Option.some.injEq,Prod.mk.injEq]at he
 obtain⟨rfl,rfl,rfl⟩:=he
 simp only[List.mem_cons,List.not_mem_nil,or_false,forall_eq_or_imp,forall_eq,decide_eq_true_eq]at ho
 obtain⟨o1,o2,o3,o4,o5⟩:=ho
 exact a5 t16 (fn:=f181) (lc:=[(0,⟨aA f181 0,yQ n m xs ps 0 [k0,k1,k2,k3,b0,b1,b2,b3,b4,b5,b6,b7],.normal,LA n m xs ps (fX xs n [k0,k1,k2,k3,b0,b1,b2,b3,b4,b5,b6,b7])⟩)]) (fuel:=100) (p:=[])
  (o:=⟨_,_,true,[yQ n m xs ps 0 [k0,k1,k2,k3,b0,b1,b2,b3,b4,b5,b6,b7]=yQ n m xs ps 0 [k0,k1,k2,k3,b0,b1,b2,b3,b4,b5,b6,b7]]⟩)
  (by kernel_rfl) (by kernel_rfl) (by kernel_rfl) rfl (by simp) (fun cc hc=>aF.cons (c:=cc) (by cases hc;kernel_rfl) (by cases hc;exact a62 n m xs ps _ o1 o2 o3 o4 o5) aF.nil)
end
section
def T17:List bF:=[⟨213,[0],BF⟩]++T16
theorem e17:a8 Tryz.prog T17:=by
 refine a8.append ?_ e16
 intro e he
 simp only[List.mem_cons,List.not_mem_nil,or_false]at he
 subst he;exact a7Q
theorem t17:bN Tryz.prog (aB T17):=aP e17
noncomputable abbrev f161:=Tryz.f184
def JA (xs:List Int) (i:Nat):List Int:=[xs.getD (i*4+0) 0,xs.getD (i*4+1) 0,xs.getD (i*4+2) 0,xs.getD (i*4+3) 0,if i=0 then 1 else 0,if i=1 then 1 else 0,if i=2 then 1 else 0,if i=3 then 1 else 0,if i=4 then 1 else 0,if i=5 then 1 else 0,if i=6 then 1 else 0,if i=7 then 1 else 0]
def KK (xs ys:List Int) (r i:Nat):List Int:=fX ys r (JA xs i)
def ld4 (k:List Int):Int:=cV (fun x=>x !=0) [k.getD 0 0,k.getD 1 0,k.getD 2 0,k.getD 3 0]
def at4 (k:List Int):Int:=[k.getD 0 0,k.getD 1 0,k.getD 2 0,k.getD 3 0,k.getD 4 0,k.getD 5 0,k.getD 6 0,k.getD 7 0,k.getD 8 0,k.getD 9 0,k.getD 10 0,k.getD 11 0].getD (ld4 k).toNat 0
def cI (k:List Int):Int:=inv (at4 k)
def oneK (k:List Int):List Int:=[k.getD 0 0*cI k%31,k.getD 1 0*cI k%31,k.getD 2 0*cI k%31,k.getD 3 0*cI k%31,k.getD 4 0*cI k%31,k.getD 5 0*cI k%31,k.getD 6 0*cI k%31,k.getD 7 0*cI k%31,k.getD 8 0*cI k%31,k.getD 9 0*cI k%31,k.getD 10 0*cI k%31,k.getD 11 0*cI k%31]
def fE (xs:List Int):Nat→Nat→List Int×List Int→List Int×List Int
 |0,_,s=>s
 |f+1,i,s=>fE xs f (i+1) (bif decide (ld4 (KK xs s.1 s.2.length i)<0)then s else(s.1++oneK (KK xs s.1 s.2.length i),s.2++[(i:Int)]))
def cL (xs:List Int) (n:Nat):List Int×List Int:=fE xs n 0 ([],[])
noncomputable def C4 (n:Nat) (xs:List Int) (r m:Nat) (ys ps:List Int) (i:Int):St:=
 bA f161.ntmps [(3,.c (.ptr 0 0 0 0)),(12,.c (.view none (.ints .i64 xs) n 4 none)),(13,.c (.int .i64 n)),(14,.c (.int .i64 i))]
  [.live (.cells [.sl 1 0 r 12 none,.sl 2 0 m 1 none]),.live (.ints .i64 ys),.live (.ints .i64 ps)]
noncomputable def L7 (r m:Nat) (ys ps:List Int):St:=
 bA f161.ntmps [(3,.c (.ptr 0 0 0 0))] [.live (.cells [.sl 1 0 r 12 none,.sl 2 0 m 1 none]),.live (.ints .i64 ys),.live (.ints .i64 ps)]
section
variable (n : Nat) (xs : List Int) (r m : Nat) (ys ps : List Int)
theorem T0 (i:Nat) (hi:i<8):aH 0 (aA f161 0) (aD f161 0) (aK tt (aB T17) [] 0 100 (a6 0 (a7 f161)) (C4 n xs r m ys ps i) [(0,true),(0,true)])=
  some (.normal,(decide ((i:Int)<n)&&(decide ((i:Int)<n)&&(decide (i*4+4≤xs.length)&&(decide (r≤274877906944)&&(decide (ys.length=r*12)&&(a9 ys&&(a9 (JA xs i)&&(i7 ys r&&(decide (ld4 (KK xs ys r i)<0)&&true))))))))),[],C4 n xs r m ys ps (i+1:Nat)):=
 match i,hi with
 |0,_=>by kernel_rfl
 |1,_=>by kernel_rfl
 |2,_=>by kernel_rfl
 |3,_=>by kernel_rfl
 |4,_=>by kernel_rfl
 |5,_=>by kernel_rfl
 |6,_=>by kernel_rfl
 |7,_=>by kernel_rfl
theorem T1 (i:Nat) (hi:i<8):aH 0 (aA f161 0) (aD f161 0) (aK tt (aB T17) [] 0 100 (a6 0 (a7 f161)) (C4 n xs r m ys ps i) [(0,true),(0,false)])=
  some (.normal,(decide ((i:Int)<n)&&(decide ((i:Int)<n)&&(decide (i*4+4≤xs.length)&&(decide (r≤274877906944)&&(decide (ys.length=r*12)&&(a9 ys&&(a9 (JA xs i)&&(i7 ys r&&(!decide (ld4 (KK xs ys r i)<0)&&(decide (0≤ld4 (KK xs ys r i))&&(decide (ld4 (KK xs ys r i)<4)&&(decide ((ld4 (KK xs ys r i)).toNat<12)&&(fok (at4 (KK xs ys r i))&&(fok ((KK xs ys r i).getD 0 0)&&(fok (cI (KK xs ys r i))&&(fok ((KK xs ys r i).getD 1 0)&&(fok (cI (KK xs ys r i))&&(fok ((KK xs ys r i).getD 2 0)&&(fok (cI (KK xs ys r i))&&(fok ((KK xs ys r i).getD 3 0)&&(fok (cI (KK xs ys r i))&&(fok ((KK xs ys r i).getD 4 0)&&(fok (cI (KK xs ys r i))&&(fok ((KK xs ys r i).getD 5 0)&&(fok (cI (KK xs ys r i))&&(fok ((KK xs ys r i).getD 6 0)&&(fok (cI (KK xs ys r i))&&(fok ((KK xs ys r i).getD 7 0)&&(fok (cI (KK xs ys r i))&&(fok ((KK xs ys r i).getD 8 0)&&(fok (cI (KK xs ys r i))&&(fok ((KK xs ys r i).getD 9 0)&&(fok (cI (KK xs ys r i))&&(fok ((KK xs ys r i).getD 10 0)&&(fok (cI (KK xs ys r i))&&(fok ((KK xs ys r i).getD 11 0)&&(fok (cI (KK xs ys r i))&&(decide (r*12=ys.length)&&(decide (r+1≤274877906944)&&(decide (m=ps.length)&&(decide (m+1≤274877906944)&&true))))))))))))))))))))))))))))))))))))))))),[],C4 n xs (r+1) (m+1) (ys++oneK (KK xs ys r i)) (ps++[(i:Int)]) (i+1:Nat)):=
 match i,hi with
 |0,_=>by kernel_rfl
 |1,_=>by kernel_rfl
 |2,_=>by kernel_rfl
 |3,_=>by kernel_rfl
 |4,_=>by kernel_rfl
 |5,_=>by kernel_rfl
 |6,_=>by kernel_rfl
 |7,_=>by kernel_rfl
theorem T4 (i:Int):aH 0 (aA f161 0) (aD f161 0) (aK tt (aB T17) [] 0 100 (a6 0 (a7 f161)) (C4 n xs r m ys ps i) [(0,false)])=
  some (.exit 0,(!decide (i<n)&&true),[],L7 r m ys ps):=by kernel_rfl
end
theorem WY (a b c d:Int):cV (fun x=>x !=0) [a,b,c,d]=if a≠0 then 0 else if b≠0 then 1 else if c≠0 then 2 else if d≠0 then 3 else -1:=by
 have e: ∀x:Int,x=0∨(x≠0∧(x !=0)=true):=fun x=>by
  by_cases h:x=0
  ·exact .inl h
  ·exact .inr ⟨h,bne_iff_ne.2 h⟩
 unfold cV dV
 rcases e a with ha|⟨ha,ha'⟩
 ·subst ha
  rcases e b with hb|⟨hb,hb'⟩
  ·subst hb
   rcases e c with hc|⟨hc,hc'⟩
   ·subst hc
    rcases e d with hd|⟨hd,hd'⟩
    ·subst hd;rfl
    ·simp[dE,hd,hd',-bne_iff_ne]
   ·simp[dE,hc,hc',-bne_iff_ne]
  ·simp[dE,hb,hb',-bne_iff_ne]
 ·simp[dE,ha,ha',-bne_iff_ne]
theorem M1 {a b c d:Int} (h:a≠0∨b≠0∨c≠0∨d≠0):bet (cV (fun x=>x !=0) [a,b,c,d]) 0 3=true:=by
 rw[WY]
 by_cases ha:a=0<;>by_cases hb:b=0<;>by_cases hc:c=0<;>by_cases hd:d=0<;>simp[ha,hb,hc,hd,bet]at h⊢
theorem vW {k:List Int} (h:0≤ld4 k):(ld4 k=0∧k.getD 0 0≠0)∨(ld4 k=1∧k.getD 1 0≠0)∨(ld4 k=2∧k.getD 2 0≠0)∨(ld4 k=3∧k.getD 3 0≠0):=by
 unfold ld4 at h⊢
 rw[WY]at h⊢
 generalize k.getD 0 0=a at*
 generalize k.getD 1 0=b at*
 generalize k.getD 2 0=c at*
 generalize k.getD 3 0=d at*
 by_cases ha:a=0<;>by_cases hb:b=0<;>by_cases hc:c=0<;>by_cases hd:d=0<;>simp[ha,hb,hc,hd]at h⊢
theorem tB (xs:List Int): ∀(m i:Nat) (k:List Int),a9 k=true→a9 (pE xs m i k)=true
 |0,_,_,h=>h
 |m+1,i,k,h=>tB xs m (i+1) _ (by simp only[a9,zT,vZ,lT,List.all_cons,List.all_nil,c9,Bool.and_self])
theorem sY {xs:List Int} (h:a9 xs=true) (i:Nat):a9 (JA xs i)=true:=by
 have e: ∀j,fok (if i=j then 1 else 0)=true:=fun j=>by split<;>rfl
 simp only[a9,JA,List.all_cons,List.all_nil,aR h,e,Bool.and_self]
theorem H0 {xs:List Int} (h:a9 xs=true) (ys:List Int) (r i:Nat):a9 (KK xs ys r i)=true:=tB ys r 0 _ (sY h i)
theorem rO (n:Int):fok (inv n)=true:=by
 unfold inv
 exact aR (v:=[0,1,16,21,8,25,26,9,4,7,28,17,13,12,20,29,2,11,19,18,14,3,24,27,22,5,6,23,10,15,30]) rfl _
theorem nN {n:Int} (h:fok n=true) (h0:n≠0):n*inv n%31=1:=by
 have key:=MB (q:=fun n=>(decide (n≠0)→n*inv n%31=1)) (fun k hk=>by
  have all:cB (fun k=> !decide ((k:Int)≠0)||decide ((k:Int)*inv k%31=1)) 31=true:=by kernel_rfl
  have:=aY all k hk
  simp only[Bool.or_eq_true,Bool.not_eq_true',decide_eq_false_iff_not,decide_eq_true_eq]at this
  intro h
  rcases this with h'|h'
  ·simp at h;omega
  ·exact h') h
 exact key (by simpa using h0)
theorem LE {k:List Int} (h:a9 k=true):fok (at4 k)=true:=by
 unfold at4
 exact aR (v:=[k.getD 0 0,k.getD 1 0,k.getD 2 0,k.getD 3 0,k.getD 4 0,k.getD 5 0,k.getD 6 0,k.getD 7 0,k.getD 8 0,k.getD 9 0,k.getD 10 0,k.getD 11 0])
  (by simp only[a9,List.all_cons,List.all_nil,aR h,Bool.and_self]) _
theorem A1 (k:List Int):a9 (oneK k)=true:=by simp only[a9,oneK,List.all_cons,List.all_nil,c9,Bool.and_self]
theorem tK (k:List Int):(oneK k).length=12:=rfl
theorem F8 {k:List Int} (hk:a9 k=true) (h:0≤ld4 k):bet (cV (fun x=>x !=0) [(oneK k).getD 0 0,(oneK k).getD 1 0,(oneK k).getD 2 0,(oneK k).getD 3 0]) 0 3=true:=by
 refine M1 ?_
 have e: ∀j,j<12→(oneK k).getD j 0=k.getD j 0*cI k%31:=fun j hj=>by
  match j,hj with
  |0,_|1,_|2,_|3,_|4,_|5,_|6,_|7,_|8,_|9,_|10,_|11,_=>rfl
 rw[e 0 (by omega),e 1 (by omega),e 2 (by omega),e 3 (by omega)]
 rcases vW h with⟨h1,h2⟩|⟨h1,h2⟩|⟨h1,h2⟩|⟨h1,h2⟩
 ·have hc:cI k=inv (k.getD 0 0):=by unfold cI at4;rw[h1];rfl
  exact .inl (by rw[hc,nN (aR hk _) h2];decide)
 ·have hc:cI k=inv (k.getD 1 0):=by unfold cI at4;rw[h1];rfl
  exact .inr (.inl (by rw[hc,nN (aR hk _) h2];decide))
 ·have hc:cI k=inv (k.getD 2 0):=by unfold cI at4;rw[h1];rfl
  exact .inr (.inr (.inl (by rw[hc,nN (aR hk _) h2];decide)))
 ·have hc:cI k=inv (k.getD 3 0):=by unfold cI at4;rw[h1];rfl
  exact .inr (.inr (.inr (by rw[hc,nN (aR hk _) h2];decide)))
theorem dY (xs ys:List Int) (i:Nat):(xs++ys).getD i 0=if i<xs.length then xs.getD i 0 else ys.getD (i-xs.length) 0:=by
 rw[List.getD_eq_getElem?_getD,List.getElem?_append]
 split<;>rw[List.getD_eq_getElem?_getD]
theorem mY {f:Nat→Bool}: ∀ {n:Nat},(∀k,k<n→f k=true)→cB f n=true
 |0,_=>rfl
 |n+1,h=>by simp only[cB,Bool.and_eq_true];exact⟨h n (by omega),mY fun k hk=>h k (by omega)⟩
theorem eI {xs ys:List Int} (h:a9 xs=true) (h':a9 ys=true):a9 (xs++ys)=true:=by
 simp only[a9,List.all_append,Bool.and_eq_true]at h h'⊢;exact⟨h,h'⟩
theorem vX {ys:List Int} {r:Nat} (hl:ys.length=r*12) (h:i7 ys r=true) {k:List Int} (hk:a9 k=true) (h0:0≤ld4 k):i7 (ys++oneK k) (r+1)=true:=by
 refine mY fun i hi=> ?_
 by_cases e:i=r
 ·subst e
  have:=F8 hk h0
  unfold ldK
  rw[dY,dY,dY,dY,if_neg (by omega),if_neg (by omega),if_neg (by omega),if_neg (by omega)]
  rw[hl,Nat.sub_self,Nat.add_sub_cancel_left,Nat.add_sub_cancel_left,Nat.add_sub_cancel_left]
  exact this
 ·have:=aY h i (by omega)
  unfold ldK at this⊢
  rw[dY,dY,dY,dY,if_pos (by omega),if_pos (by omega),if_pos (by omega),if_pos (by omega)]
  exact this
theorem a5Z (n:Nat) (xs:List Int) (hn:n≤8) (hx:xs.length=n*4) (hf:a9 xs=true):
  aW Tryz.prog 0 (.block 0 (.loop (a6 0 (a7 f161)))) (C4 n xs 0 0 [] [] 0) fun e t=>e=.normal∧t=L7 (cL xs n).2.length (cL xs n).2.length (cL xs n).1 (cL xs n).2:=by
 refine aW.roundsN hT t17 bM (m:=0) (id:=0) (body:=a6 0 (a7 f161)) (α:=Nat×List Int×List Int)
  (fun x=>x.1≤n∧x.2.2.length≤x.1∧x.2.1.length=x.2.2.length*12∧a9 x.2.1=true∧i7 x.2.1 x.2.2.length=true∧fE xs (n-x.1) x.1 x.2=cL xs n)
  (fun x=>C4 n xs x.2.2.length x.2.2.length x.2.1 x.2.2 x.1) (fun x=>n-x.1) (aA f161 0) (aD f161 0)
  (fun _=>L7 (cL xs n).2.length (cL xs n).2.length (cL xs n).1 (cL xs n).2) (fun _=>[]) (fun _ _=>aF.nil) (fun x hx=> ?_) (0,[],[]) ⟨by simp,by simp,rfl,rfl,rfl,rfl⟩
 obtain⟨i,ys,ps⟩:=x
 obtain⟨h1,h2,h3,h4,h5,h6⟩:=hx
 dsimp only at h1 h2 h3 h4 h5 h6⊢
 by_cases hi:i<n
 ·have hkk:n-i=(n-(i+1))+1:=by omega
  rw[hkk]at h6
  simp only[fE]at h6
  have hK:=H0 hf ys ps.length i
  by_cases hz:ld4 (KK xs ys ps.length i)<0
  ·rw[decide_eq_true hz,cond_true]at h6
   refine⟨_,_,_,_,_,_,T0 n xs ps.length ps.length ys ps i (by omega), ?_,by simp,.inl ⟨rfl,(i+1,ys,ps),⟨by omega,by dsimp only;omega,h3,h4,h5,h6⟩,by dsimp only;omega,rfl,rfl⟩⟩
   simp only[h4,h5,sY hf,Bool.and_true,Bool.true_and,Bool.and_eq_true,decide_eq_true_eq]
   omega
  ·rw[decide_eq_false hz,cond_false]at h6
   have h0:0≤ld4 (KK xs ys ps.length i):=by omega
   have hb:ld4 (KK xs ys ps.length i)≤3:=by rcases vW h0 with h|h|h|h<;>omega
   refine⟨_,_,_,_,_,_,T1 n xs ps.length ps.length ys ps i (by omega), ?_,by simp,
    .inl ⟨rfl,(i+1,ys++oneK (KK xs ys ps.length i),ps++[(i:Int)]),⟨by omega,by simp;omega,by simp[tK];omega,eI h4 (A1 _), ?_,h6⟩,by dsimp only;omega, ?_,rfl⟩⟩
   ·simp only[h4,h5,sY hf,aR hK,LE hK,cI,rO,Bool.and_true,Bool.true_and,Bool.and_eq_true,decide_eq_true_eq,Bool.not_eq_true',decide_eq_false_iff_not,true_and,and_true]
    omega
   ·dsimp only;rw[List.length_append];exact vX h3 h5 hK h0
   ·dsimp only;rw[List.length_append];rfl
 ·have hz:n-i=0:=by omega
  rw[hz]at h6
  simp only[fE]at h6
  exact⟨_,_,_,_,_,_,T4 n xs ps.length ps.length ys ps i,by simp;omega,by simp,.inr ⟨rfl,by rw[←h6]⟩⟩
noncomputable def KO (n:Nat) (xs:List Int):St:=
 bA f161.ntmps [(3,.c (.ptr 0 0 0 0)),(12,.c (.view none (.ints .i64 xs) n 4 none)),(13,.c (.int .i64 n)),(14,.c (.int .i64 0))] [.live (.cells [.nils,.nils])]
def BW:aQ:=fun args h=>
 match args,h with
 |[.c (.view _ (.ints .i64 xs) n 4 _)],[]=>
  some (.c (.ptr 0 0 0 0),[.live (.cells [.sl 1 0 (cL xs n).2.length 12 none,.sl 2 0 (cL xs n).2.length 1 none]),.live (.ints .i64 (cL xs n).1),.live (.ints .i64 (cL xs n).2)],[decide (n≤8),a9 xs])
 |_,_=>none
theorem a7G:aV Tryz.prog 184 BW:=by
 intro args h res h' o hnorm he ho
 unfold BW at he
 split at he
 case h_2=>cases he
 rename_i nl xs n cap
 simp only[Option.some.injEq,Prod.mk.injEq]at he
 obtain⟨rfl,rfl,rfl⟩:=he
 simp only[List.mem_cons,List.not_mem_nil,or_false,forall_eq_or_imp,forall_eq,decide_eq_true_eq]at ho
 obtain⟨o1,o2⟩:=ho
 simp only[bG,AV.norm,bI,aJ.norm,Con.size,List.cons.injEq,AV.c.injEq,AV.agg.injEq,aJ.view.injEq,aN,true_and,and_true]at hnorm
 obtain⟨hn1,hn2,hn3⟩:=hnorm
 refine bE.len ⟨f161,by kernel_rfl,by kernel_rfl,by kernel_rfl⟩ fun hlen=> ?_
 simp only[List.mem_cons,List.not_mem_nil,or_false,forall_eq,AV.lenOk,aJ.lenOk,Con.size]at hlen
 subst hn1 hn3
 have g:=(a5Z n xs o1 hlen.symm o2).pre (s:=KO n xs) ((cX.nilH 0 0 0 12 (.ints .i64 []) rfl _).trans (cX.nilH 0 0 1 1 (.ints .i64 []) rfl _))
 exact a5 t17 (fn:=f161) (lc:=[(0,⟨aA f161 0,KO n xs,.normal,L7 (cL xs n).2.length (cL xs n).2.length (cL xs n).1 (cL xs n).2⟩)]) (fuel:=100) (p:=[])
  (o:=⟨_,_,true,[KO n xs=KO n xs]⟩)
  (by kernel_rfl) (by kernel_rfl) (by kernel_rfl) rfl (by simp) (fun cc hc=>aF.cons (c:=cc) (by cases hc;kernel_rfl) (by cases hc;exact g) aF.nil)
end
section
def T18:List bF:=[⟨184,[],nm BW⟩]++T17
theorem e18:a8 Tryz.prog T18:=by
 refine a8.append ?_ e17
 intro e he
 simp only[List.mem_cons,List.not_mem_nil,or_false]at he
 subst he;exact a7G.ok
theorem t18:bN Tryz.prog (aB T18):=aP e18
theorem V3 (xs:List Int) (n:Nat):aG tt (aB T18) [] 100 Tryz.f182 [.c (.view none (.ints .i64 xs) n 4 none)] [] []=
  some ⟨.c (.int .i64 (↑(cL xs n).snd.length:Int)),[],(decide (n≤8)&&((a9 xs)&&true)),[]⟩:=by kernel_rfl
def w9 (xs:List Int) (n:Nat):Nat:=(cL xs n).2.length
def BN:aQ:=fun args h=>
 match args,h with
 |[.c (.view _ (.ints .i64 xs) n 4 _)],[]=>
  some (.c (.int .i64 (w9 xs n)),[],[decide (n≤8),a9 xs])
 |_,_=>none
theorem a7E:aV Tryz.prog 182 BN:=by
 intro args h res h' o hnorm he ho
 unfold BN at he
 split at he
 case h_2=>cases he
 rename_i nl xs n cap
 simp only[Option.some.injEq,Prod.mk.injEq]at he
 obtain⟨rfl,rfl,rfl⟩:=he
 simp only[List.mem_cons,List.not_mem_nil,or_false,forall_eq_or_imp,forall_eq,decide_eq_true_eq]at ho
 obtain⟨o1,o2⟩:=ho
 simp only[bG,AV.norm,bI,aJ.norm,Con.size,List.cons.injEq,AV.c.injEq,AV.agg.injEq,aJ.view.injEq,aN,true_and,and_true]at hnorm
 obtain⟨hn1,hn2,hn3⟩:=hnorm
 subst hn1 hn3
 exact a5 t18 (by kernel_rfl) (by kernel_rfl) (V3 xs n) (by simp[o1,o2]) (by simp) (fun c _=>aF.nil)
def T19:List bF:=[⟨182,[],nm BN⟩]++T18
theorem e19:a8 Tryz.prog T19:=by
 refine a8.append ?_ e18
 intro e he
 simp only[List.mem_cons,List.not_mem_nil,or_false]at he
 subst he;exact a7E.ok
theorem t19:bN Tryz.prog (aB T19):=aP e19
theorem UU (k:Int) (v:List Int):aG tt (aB T19) [] 100 Tryz.f151 [.c (.int .i64 k),.c (.view none (.ints .i64 v) v.length 1 none)] [] []=
  some ⟨.c (.bool ((↑(w9 (cG k v) v.length):Int)==4)),[],(decide (v.length≤274877906944)&&(bet k 1 2&&(aM v&&(decide (v.length*4=(cG k v).length)&&(decide (v.length≤8)&&((a9 (cG k v))&&true)))))),[]⟩:=by kernel_rfl
def bO (k:Int) (v:List Int):Bool:=(w9 (cG k v) v.length:Int)==4
def wL:aQ:=fun args h=>
 match args,h with
 |[.c (.int .i64 k),.c (.view _ (.ints .i64 v) n 1 _)],[]=>
  some (.c (.bool (bO k v)),[],[decide (v.length≤8),bet k 1 2,aM v])
 |_,_=>none
theorem K2 {k a:Int} (hk:bet k 1 2=true) (ha:bet a 0 7=true):a9 (AC k a)=true:=by
 refine JJ (q:=fun k a=>a9 (AC k a)=true) (fun i hi=> ?_) hk ha
 have all:cB (fun k=>a9 (AC ((k/8:Nat)+1:Int) (k%8:Nat))) 16=true:=by kernel_rfl
 exact aY all i hi
theorem tS {k:Int} (hk:bet k 1 2=true) {v:List Int} (hv:aM v=true): ∀m i,i+m≤v.length→a9 (jM k v m i)=true
 |0,_,_=>rfl
 |m+1,i,h=>eI (K2 hk (cD hv (by omega))) (tS hk hv m (i+1) (by omega))
theorem hB {k:Int} (hk:bet k 1 2=true) {v:List Int} (hv:aM v=true):a9 (cG k v)=true:=tS hk hv _ _ (by omega)
theorem tT (k:Int) (v:List Int): ∀m i,(jM k v m i).length=m*4
 |0,_=>by simp[jM]
 |m+1,i=>by simp[jM,AC,tT k v m (i+1)];omega
theorem lE (k:Int) (v:List Int):(cG k v).length=v.length*4:=tT k v _ _
theorem a6X:aV Tryz.prog 151 wL:=by
 intro args h res h' o hnorm he ho
 unfold wL at he
 split at he
 case h_2=>cases he
 rename_i k nl v n cap
 simp only[Option.some.injEq,Prod.mk.injEq]at he
 obtain⟨rfl,rfl,rfl⟩:=he
 simp only[List.mem_cons,List.not_mem_nil,or_false,forall_eq_or_imp,forall_eq,decide_eq_true_eq]at ho
 obtain⟨o1,o2,o3⟩:=ho
 simp only[bG,AV.norm,bI,aJ.norm,Con.size,List.cons.injEq,AV.c.injEq,AV.agg.injEq,aJ.view.injEq,aN,true_and,and_true]at hnorm
 obtain⟨rfl,rfl,rfl⟩:=hnorm
 exact a5 t19 (by kernel_rfl) (by kernel_rfl) (UU k v) (by simp[o1,o2,o3,hB,lE];omega) (by simp) (fun c _=>aF.nil)
end
section
def bP {β:Type} (step:Nat→β→β):Nat→Nat→β→β
 |0,_,b=>b
 |f+1,i,b=>bP step f (i+1) (step i b)
def dO {β γ:Type} (step:Nat→β→β⊕γ):Nat→Nat→β→β⊕γ
 |0,_,b=> .inl b
 |f+1,i,b=>match step i b with
  |.inl b'=>dO step f (i+1) b'
  |.inr c=> .inr c
theorem tW {β:Type} {step:Nat→β→β} (Inv:Nat→β→Prop): ∀(f i:Nat) (b:β),Inv i b→(∀k b,i≤k→k<i+f→Inv k b→Inv (k+1) (step k b))→Inv (i+f) (bP step f i b)
 |0,i,b,h,_=>h
 |f+1,i,b,h,hs=>by
  have:=tW (step:=step) Inv f (i+1) (step i b) (hs i b (Nat.le_refl _) (by omega) h) (fun k b h1 h2=>hs k b (by omega) (by omega))
  rw[show i+(f+1)=i+1+f from by omega]
  exact this
theorem bH {β:Type} {step:Nat→β→β} (Inv:Nat→β→Prop) (n:Nat) (b:β) (h:Inv 0 b) (hs: ∀k b,k<n→Inv k b→Inv (k+1) (step k b)):Inv n (bP step n 0 b):=by
 have:=tW Inv n 0 b h (fun k b _ h2=>hs k b (by omega))
 rwa[Nat.zero_add]at this
theorem tV {β:Type} {s s':Nat→β→β}: ∀(f i:Nat) (b:β),(∀k b,i≤k→k<i+f→s k b=s' k b)→bP s f i b=bP s' f i b
 |0,_,_,_=>rfl
 |f+1,i,b,h=>by
  simp only[bP]
  rw[h i b (Nat.le_refl _) (by omega)]
  exact tV f (i+1) _ fun k b h1 h2=>h k b (by omega) (by omega)
def cC (f:Nat→Bool):Nat→Nat→Bool
 |0,_=>true
 |n+1,i=>f i&&cC f n (i+1)
theorem bY {f:Nat→Bool}: ∀ {n i:Nat},cC f n i=true↔ ∀k,i≤k→k<i+n→f k=true
 |0,i=>⟨fun _ k h1 h2=>absurd h1 (by omega),fun _=>rfl⟩
 |n+1,i=>by
  simp only[cC,Bool.and_eq_true,bY (n:=n) (i:=i+1)]
  constructor
  ·rintro⟨h1,h2⟩ k h3 h4
   by_cases e:k=i
   ·subst e;exact h1
   ·exact h2 k (by omega) (by omega)
  ·intro h
   exact⟨h i (Nat.le_refl _) (by omega),fun k h1 h2=>h k (by omega) (by omega)⟩
theorem AD (f:Nat→Bool): ∀(n i:Nat),dO (β:=Unit) (γ:=Unit) (fun i _=>bif f i then .inl ()else .inr ()) n i ()=bif cC f n i then .inl ()else .inr ()
 |0,i=>rfl
 |n+1,i=>by
  simp only[dO,cC]
  cases h:f i
  ·rfl
  ·exact AD f n (i+1)
inductive Rnd (m:Nat) (live liveX:List Nat) (r:Option Out) (ex:Ex) (s:St):Prop
 |mk (b:Bool) (q:List Prop) (h:aH m live liveX r=some (ex,b,q,s)) (hb:b=true) (hq: ∀x∈q,x)
section
variable {P : Program} {tt : Tab} (hT : jA P tt) {ct : CT} (hct : bN P ct) (bM : P.follows .mixedOrders = true)
include hT hct bM
theorem aW.count {m id:Nat} {body:Code} {β:Type} (n:Nat) (Inv:Nat→β→Prop) (I:Nat→β→St) (X:β→St) (step:Nat→β→β) (live liveX:List Nat) (lc:Nat→β→List (Nat×LC))
  (hlc: ∀i b,i<n→Inv i b→aF P m (lc i b) body)
  (hr: ∀i b,i<n→Inv i b→Inv (i+1) (step i b)∧ ∃f p,Rnd m live liveX (aK tt ct (lc i b) m f body (I i b) p) .normal (I (i+1) (step i b)))
  (hx: ∀b,Inv n b→ ∃f p,Rnd m live liveX (aK tt ct [] m f body (I n b) p) (.exit id) (X b)):
  ∀b,Inv 0 b→aW P m (.block id (.loop body)) (I 0 b) fun e t=>e=.normal∧t=X (bP step n 0 b):=by
 intro b hb
 refine aW.roundsN hT hct bM (m:=m) (id:=id) (body:=body) (α:=Nat×β) (fun x=>x.1≤n∧Inv x.1 x.2) (fun x=>I x.1 x.2) (fun x=>n-x.1) live liveX
  (fun x=>X (bP step (n-x.1) x.1 x.2)) (fun x=>if x.1<n then lc x.1 x.2 else []) (fun x h=>by
   split
   ·rename_i hi;exact hlc _ _ hi h.2
   ·exact aF.nil) (fun x hinv=> ?_) (0,b) ⟨Nat.zero_le _,hb⟩
 obtain⟨i,b⟩:=x
 obtain⟨h1,h2⟩:=hinv
 dsimp only at h1 h2⊢
 by_cases hi:i<n
 ·rw[if_pos hi]
  obtain⟨g1,f,p,⟨o,q,h,ho,hq⟩⟩:=hr i b hi h2
  refine⟨f,p,_,o,q,_,h,ho,hq,.inl ⟨rfl,(i+1,step i b),⟨by omega,g1⟩,by dsimp only;omega,rfl, ?_⟩⟩
  dsimp only
  rw[show n-i=(n-(i+1))+1 from by omega];rfl
 ·have e:i=n:=by omega
  subst e
  rw[if_neg hi]
  obtain⟨f,p,⟨o,q,h,ho,hq⟩⟩:=hx b h2
  exact⟨f,p,_,o,q,_,h,ho,hq,.inr ⟨rfl,by rw[Nat.sub_self];rfl⟩⟩
theorem aW.countE {m id:Nat} {body:Code} {β γ:Type} (n:Nat) (Inv:Nat→β→Prop) (I:Nat→β→St) (X:β→St) (Y:γ→St) (exY:Ex) (hexY:exY=.normal∨exY=.ret) (step:Nat→β→β⊕γ)
  (live liveX:List Nat) (lc:Nat→β→List (Nat×LC))
  (hlc: ∀i b,i<n→Inv i b→aF P m (lc i b) body)
  (hr: ∀i b,i<n→Inv i b→(∃b',step i b=.inl b'∧Inv (i+1) b'∧ ∃f p,Rnd m live liveX (aK tt ct (lc i b) m f body (I i b) p) .normal (I (i+1) b'))∨
   (∃c,step i b=.inr c∧ ∃f p,Rnd m live liveX (aK tt ct (lc i b) m f body (I i b) p) (if exY=.normal then .exit id else exY) (Y c)))
  (hx: ∀b,Inv n b→ ∃f p,Rnd m live liveX (aK tt ct [] m f body (I n b) p) (.exit id) (X b)):
  ∀b,Inv 0 b→aW P m (.block id (.loop body)) (I 0 b) fun e t=>match dO step n 0 b with
   |.inl b'=>e=.normal∧t=X b'
   |.inr c=>e=exY∧t=Y c:=by
 intro b hb
 have key:=aW.roundsR hT hct bM (m:=m) (id:=id) (body:=body) (α:=Nat×β) (fun x=>x.1≤n∧Inv x.1 x.2) (fun x=>I x.1 x.2) (fun x=>n-x.1) live liveX
  (fun x=>match dO step (n-x.1) x.1 x.2 with|.inl _=> .normal|.inr _=>exY) (fun x=>match dO step (n-x.1) x.1 x.2 with|.inl b'=>X b'|.inr c=>Y c)
  (fun x=>if x.1<n then lc x.1 x.2 else []) (fun x h=>by
   split
   ·rename_i hi;exact hlc _ _ hi h.2
   ·exact aF.nil) (fun x hinv=> ?_) (0,b) ⟨Nat.zero_le _,hb⟩
 ·refine aW.mono key fun e t h=> ?_
  dsimp only[Nat.sub_zero]at h
  revert h
  cases dO step n 0 b<;>exact fun h=>h
 ·obtain⟨i,b⟩:=x
  obtain⟨h1,h2⟩:=hinv
  dsimp only at h1 h2⊢
  by_cases hi:i<n
  ·rw[if_pos hi]
   have hk:n-i=(n-(i+1))+1:=by omega
   rcases hr i b hi h2 with⟨b',hs,g1,f,p,⟨o,q,h,ho,hq⟩⟩|⟨c,hs,f,p,⟨o,q,h,ho,hq⟩⟩
   ·refine⟨f,p,_,o,q,_,h,ho,hq,.inl ⟨rfl,(i+1,b'),⟨by omega,g1⟩,by dsimp only;omega,rfl, ?_, ?_⟩⟩
    ·dsimp only;rw[hk];simp only[dO,hs]
    ·dsimp only;rw[hk];simp only[dO,hs]
   ·have e1:dO step (n-i) i b=.inr c:=by rw[hk];simp only[dO,hs]
    rw[e1]
    rcases hexY with e|e
    ·subst e
     rw[if_pos rfl]at h
     exact⟨f,p,_,o,q,_,h,ho,hq,.inr (.inl ⟨rfl,rfl,rfl⟩)⟩
    ·subst e
     rw[if_neg (by intro h;cases h)]at h
     exact⟨f,p,_,o,q,_,h,ho,hq,.inr (.inr ⟨(by intro h;cases h),(by intro h;cases h),rfl,rfl⟩)⟩
  ·have e:i=n:=by omega
   subst e
   rw[if_neg hi]
   obtain⟨f,p,⟨o,q,h,ho,hq⟩⟩:=hx b h2
   have e1:dO step (i-i) i b=.inl b:=by rw[Nat.sub_self];rfl
   rw[e1]
   exact⟨f,p,_,o,q,_,h,ho,hq,.inr (.inl ⟨rfl,rfl,rfl⟩)⟩
theorem aW.all {m id:Nat} {body:Code} (n:Nat) (f:Nat→Bool) (I:Nat→St) (X Y:St) (exY:Ex) (hexY:exY=.normal∨exY=.ret) (live liveX:List Nat) (lc:Nat→List (Nat×LC))
  (hlc: ∀i,i<n→aF P m (lc i) body)
  (ht: ∀i,i<n→f i=true→ ∃g p,Rnd m live liveX (aK tt ct (lc i) m g body (I i) p) .normal (I (i+1)))
  (hf: ∀i,i<n→f i=false→ ∃g p,Rnd m live liveX (aK tt ct (lc i) m g body (I i) p) (if exY=.normal then .exit id else exY) Y)
  (hx: ∃g p,Rnd m live liveX (aK tt ct [] m g body (I n) p) (.exit id) X):
  aW P m (.block id (.loop body)) (I 0) fun e t=>e=(bif cC f n 0 then .normal else exY)∧t=bif cC f n 0 then X else Y:=by
 have key:=aW.countE hT hct bM (m:=m) (id:=id) (body:=body) (β:=Unit) (γ:=Unit) n (fun _ _=>True) (fun i _=>I i) (fun _=>X) (fun _=>Y) exY hexY (fun i _=>bif f i then .inl ()else .inr ())
  live liveX (fun i _=>lc i) (fun i _ h _=>hlc i h) (fun i _ hi _=> ?_) (fun _ _=>hx) () trivial
 ·refine aW.mono key fun e t h=> ?_
  rw[AD]at h
  revert h
  cases cC f n 0<;>exact fun h=>h
 ·cases h:f i with
  |true=>exact .inl ⟨(),rfl,trivial,ht i hi h⟩
  |false=>exact .inr ⟨(),rfl,hf i hi h⟩
end
end
section
def T20:List bF:=[⟨151,[],nm wL⟩]++T19
theorem e20:a8 Tryz.prog T20:=by
 refine a8.append ?_ e19
 intro e he
 simp only[List.mem_cons,List.not_mem_nil,or_false]at he
 subst he;exact a6X.ok
theorem t20:bN Tryz.prog (aB T20):=aP e20
noncomputable abbrev f139:=Tryz.f152
def lN (ys:List Int) (i:Nat):List Int:=[ys.getD (i*12+0) 0,ys.getD (i*12+1) 0,ys.getD (i*12+2) 0,ys.getD (i*12+3) 0,ys.getD (i*12+4) 0,ys.getD (i*12+5) 0,ys.getD (i*12+6) 0,ys.getD (i*12+7) 0,ys.getD (i*12+8) 0,ys.getD (i*12+9) 0,ys.getD (i*12+10) 0,ys.getD (i*12+11) 0]
noncomputable def q6 (w v ys:List Int) (r:Nat) (n:Nat) (zs:List Int) (i:Int):St:=
 bA f139.ntmps [(1,.c (.view none (.ints .i64 w) w.length 1 none)),(2,.c (.view none (.ints .i64 v) v.length 1 none)),(6,.c (.ptr 0 0 0 0)),(7,.c (.ptr 1 0 0 0)),(9,.c (.sl 2 0 n 5 none)),
  (29,.c (.sl 3 0 r 12 none)),(30,.c (.int .i64 r)),(31,.c (.int .i64 i))]
  [.live (.ints .i64 [0,0,0,0]),.live (.ints .i64 [0,0,0,0]),.live (.ints .i64 zs),.live (.ints .i64 ys)]
noncomputable def mV (w v ys:List Int) (r n:Nat) (zs kk:List Int) (i val j:Int):St:=
 bA f139.ntmps [(1,.c (.view none (.ints .i64 w) w.length 1 none)),(2,.c (.view none (.ints .i64 v) v.length 1 none)),(6,.c (.ptr 0 0 0 0)),(7,.c (.ptr 1 0 0 0)),(9,.c (.sl 2 0 n 5 none)),
  (11,.c (.ptr 3 0 0 0)),(12,.c (.int .i64 val)),(29,.c (.sl 4 0 r 12 none)),(30,.c (.int .i64 r)),(31,.c (.int .i64 i)),(35,.c (.view none (.ints .i64 v) v.length 1 none)),(36,.c (.int .i64 v.length)),
  (37,.c (.int .i64 j))]
  [.live (.ints .i64 [0,0,0,0]),.live (.ints .i64 [0,0,0,0]),.live (.ints .i64 zs),.live (.ints .i64 kk),.live (.ints .i64 ys)]
noncomputable def yU (w v ys:List Int) (r n:Nat) (zs kk:List Int) (i val:Int):St:=
 bA f139.ntmps [(1,.c (.view none (.ints .i64 w) w.length 1 none)),(2,.c (.view none (.ints .i64 v) v.length 1 none)),(6,.c (.ptr 0 0 0 0)),(7,.c (.ptr 1 0 0 0)),(9,.c (.sl 2 0 n 5 none)),
  (11,.c (.ptr 3 0 0 0)),(12,.c (.int .i64 val)),(29,.c (.sl 4 0 r 12 none)),(30,.c (.int .i64 r)),(31,.c (.int .i64 i))]
  [.live (.ints .i64 [0,0,0,0]),.live (.ints .i64 [0,0,0,0]),.live (.ints .i64 zs),.live (.ints .i64 kk),.live (.ints .i64 ys)]
noncomputable def DF (zs:List Int) (n:Nat):St:=
 bA f139.ntmps [(6,.c (.ptr 0 0 0 0)),(7,.c (.ptr 1 0 0 0)),(9,.c (.sl 2 0 n 5 none))]
  [.live (.ints .i64 [0,0,0,0]),.live (.ints .i64 [0,0,0,0]),.live (.ints .i64 zs)]
theorem MP (w v ys:List Int) (r n:Nat) (zs kk:List Int) (i val j:Int):aH 0 (aA f139 2) (aD f139 2) (aK tt (aB T20) [] 0 100 (a6 2 (a7 f139)) (mV w v ys r n zs kk i val j) [(0,true)])=
  some (.normal,(decide (j<(↑v.length:Int))&&(decide (0≤j)&&(decide (j<(↑v.length:Int))&&(decide (j.toNat<v.length)&&(decide (0≤j)&&(decide (j<8)&&(decide (j.toNat*1+4<kk.length)&&(decide (0≤v.getD j.toNat 0)&&(decide (v.getD j.toNat 0<(↑w.length:Int))&&(decide ((v.getD j.toNat 0).toNat<w.length)&&(fok (kk.getD (j.toNat*1+4) 0)&&(fok (w.getD (v.getD j.toNat 0).toNat 0)&&(fok val&&((fok (kk.getD (j.toNat*1+4) 0*w.getD (v.getD j.toNat 0).toNat 0%31))&&true)))))))))))))),[],mV w v ys r n zs kk i ((val+kk.getD (j.toNat*1+4) 0*w.getD (v.getD j.toNat 0).toNat 0%31)%31) (IntKind.i64.wrap (j+1))):=by kernel_rfl
theorem MQ (w v ys:List Int) (r n:Nat) (zs kk:List Int) (i val j:Int):aH 0 (aA f139 2) (aD f139 2) (aK tt (aB T20) [] 0 100 (a6 2 (a7 f139)) (mV w v ys r n zs kk i val j) [(0,false)])=
  some (.exit 2,((!decide (j<(↑v.length:Int)))&&true),[],yU w v ys r n zs kk i (val)):=by kernel_rfl
theorem MN (w v ys:List Int) (r n:Nat) (zs:List Int) (i val:Int):aH 0 (aA f139 0) (aD f139 0) (aK tt (aB T20) [(2,⟨aA f139 2,mV w v ys r n zs (lN ys i.toNat) i 0 0,.normal,yU w v ys r n zs (lN ys i.toNat) i val⟩)] 0 100 (a6 0 (a7 f139)) (q6 w v ys r n zs i) [(0,true)])=
  some (.normal,(decide (i<(↑r:Int))&&(decide (0≤i)&&(decide (i<(↑r:Int))&&(decide (i.toNat*12+12≤ys.length)&&(decide (n*5=zs.length)&&((decide (n+1≤274877906944))&&true)))))),[mV w v ys r n zs (lN ys i.toNat) i 0 0=mV w v ys r n zs (lN ys i.toNat) i 0 0],q6 w v ys r (n+1) (zs++[ys.getD (i.toNat*12) 0,ys.getD (i.toNat*12+1) 0,ys.getD (i.toNat*12+2) 0,ys.getD (i.toNat*12+3) 0,val]) (IntKind.i64.wrap (i+1))):=by kernel_rfl
theorem MO (w v ys:List Int) (r n:Nat) (zs:List Int) (i val:Int) (lcv:List (Nat×LC)):aH 0 (aA f139 0) (aD f139 0) (aK tt (aB T20) lcv 0 100 (a6 0 (a7 f139)) (q6 w v ys r n zs i) [(0,false)])=
  some (.exit 0,((!decide (i<(↑r:Int)))&&true),[],DF (zs) (n)):=by kernel_rfl
def K7 (zs:List Int) (j:Nat) (a b c d:Int):List Int:=(((zs.set (j*5) a).set (j*5+1) b).set (j*5+2) c).set (j*5+3) d
def elC (zs:List Int) (at_:Int) (j:Nat):Int:=zs.getD (j*5+at_.toNat*1) 0
def elE (zs:List Int) (i j:Nat) (at_:Int) (q:Nat):Int:=(zs.getD (j*5+q) 0+zs.getD (i*5+q) 0*elC zs at_ j%31*30%31)%31
def lQ (zs:List Int) (i:Nat) (at_:Int) (j:Nat):List Int:=K7 zs j (elE zs i j at_ 0) (elE zs i j at_ 1) (elE zs i j at_ 2) (elE zs i j at_ 3)
def nC (zs:List Int) (i:Nat) (at_:Int) (j:Nat):List Int:=
 (lQ zs i at_ j).set (j*5+4) (((lQ zs i at_ j).getD (j*5+4) 0-(lQ zs i at_ j).getD (i*5+4) 0*elC zs at_ j%31)%31)
def ld5 (zs:List Int) (i:Nat):Int:=cV (fun x=>x !=0) [zs.getD (i*5) 0,zs.getD (i*5+1) 0,zs.getD (i*5+2) 0,zs.getD (i*5+3) 0]
noncomputable def q7 (n:Nat) (zs:List Int) (i:Int):St:=
 bA f139.ntmps [(6,.c (.ptr 0 0 0 0)),(7,.c (.ptr 1 0 0 0)),(9,.c (.sl 2 0 n 5 none)),(63,.c (.int .i64 n)),(64,.c (.int .i64 i))]
  [.live (.ints .i64 [0,0,0,0]),.live (.ints .i64 [0,0,0,0]),.live (.ints .i64 zs)]
noncomputable def iL (n:Nat) (zs:List Int) (i at_ j:Int):St:=
 bA f139.ntmps [(6,.c (.ptr 0 0 0 0)),(7,.c (.ptr 1 0 0 0)),(9,.c (.sl 2 0 n 5 none)),(15,.c (.int .i64 i)),(16,.c (.int .i64 at_)),(63,.c (.int .i64 n)),(64,.c (.int .i64 i)),(74,.c (.int .i64 n)),
  (75,.c (.int .i64 j))]
  [.live (.ints .i64 [0,0,0,0]),.live (.ints .i64 [0,0,0,0]),.live (.ints .i64 zs)]
noncomputable def yV (n:Nat) (zs:List Int) (i:Int):St:=
 bA f139.ntmps [(6,.c (.ptr 0 0 0 0)),(7,.c (.ptr 1 0 0 0)),(9,.c (.sl 2 0 n 5 none)),(63,.c (.int .i64 n)),(64,.c (.int .i64 i))]
  [.live (.ints .i64 [0,0,0,0]),.live (.ints .i64 [0,0,0,0]),.live (.ints .i64 zs)]
noncomputable def DG (n:Nat) (zs:List Int):St:=
 bA f139.ntmps [(6,.c (.ptr 0 0 0 0)),(7,.c (.ptr 1 0 0 0)),(9,.c (.sl 2 0 n 5 none))]
  [.live (.ints .i64 [0,0,0,0]),.live (.ints .i64 [0,0,0,0]),.live (.ints .i64 zs)]
theorem MT (n:Nat) (zs:List Int) (i at_ j:Int):aH 0 (aA f139 6) (aD f139 6) (aK tt (aB T20) [] 0 100 (a6 6 (a7 f139)) (iL n zs i at_ j) [(0,true),(0,true),(0,true)])=
  some (.normal,(decide (j<(↑n:Int))&&(decide (0≤j)&&(decide (j<(↑n:Int))&&(decide (0≤at_)&&(decide (at_<4)&&(decide (j.toNat*5+at_.toNat*1<zs.length)&&((j !=i)&&((j !=i)&&((bif j !=i then zs.getD (j.toNat*5+at_.toNat*1) 0 !=0 else false)&&(decide (0≤j)&&(decide (j<(↑n:Int))&&(decide (j.toNat*5+4≤zs.length)&&(decide (0≤i)&&(decide (i<(↑n:Int))&&(decide (i.toNat*5+4≤zs.length)&&(fok (zs.getD (i.toNat*5) 0)&&(fok (zs.getD (j.toNat*5+at_.toNat*1) 0)&&(fok (zs.getD (i.toNat*5+1) 0)&&(fok (zs.getD (j.toNat*5+at_.toNat*1) 0)&&(fok (zs.getD (i.toNat*5+2) 0)&&(fok (zs.getD (j.toNat*5+at_.toNat*1) 0)&&(fok (zs.getD (i.toNat*5+3) 0)&&(fok (zs.getD (j.toNat*5+at_.toNat*1) 0)&&(fok (zs.getD (j.toNat*5) 0)&&(fok (zs.getD (i.toNat*5) 0*zs.getD (j.toNat*5+at_.toNat*1) 0%31)&&(fok (zs.getD (j.toNat*5+1) 0)&&(fok (zs.getD (i.toNat*5+1) 0*zs.getD (j.toNat*5+at_.toNat*1) 0%31)&&(fok (zs.getD (j.toNat*5+2) 0)&&(fok (zs.getD (i.toNat*5+2) 0*zs.getD (j.toNat*5+at_.toNat*1) 0%31)&&(fok (zs.getD (j.toNat*5+3) 0)&&(fok (zs.getD (i.toNat*5+3) 0*zs.getD (j.toNat*5+at_.toNat*1) 0%31)&&(decide (0≤j)&&(decide (j<(↑n:Int))&&(decide (j.toNat*5+4≤zs.length)&&(decide (0≤j)&&(decide (j<(↑n:Int))&&(decide (j.toNat*5+4<((((zs.set (j.toNat*5) ((zs.getD (j.toNat*5) 0+zs.getD (i.toNat*5) 0*zs.getD (j.toNat*5+at_.toNat*1) 0%31*30%31)%31)).set (j.toNat*5+1) ((zs.getD (j.toNat*5+1) 0+zs.getD (i.toNat*5+1) 0*zs.getD (j.toNat*5+at_.toNat*1) 0%31*30%31)%31)).set (j.toNat*5+2) ((zs.getD (j.toNat*5+2) 0+zs.getD (i.toNat*5+2) 0*zs.getD (j.toNat*5+at_.toNat*1) 0%31*30%31)%31)).set (j.toNat*5+3) ((zs.getD (j.toNat*5+3) 0+zs.getD (i.toNat*5+3) 0*zs.getD (j.toNat*5+at_.toNat*1) 0%31*30%31)%31)).length)&&(decide (0≤i)&&(decide (i<(↑n:Int))&&(decide (i.toNat*5+4<((((zs.set (j.toNat*5) ((zs.getD (j.toNat*5) 0+zs.getD (i.toNat*5) 0*zs.getD (j.toNat*5+at_.toNat*1) 0%31*30%31)%31)).set (j.toNat*5+1) ((zs.getD (j.toNat*5+1) 0+zs.getD (i.toNat*5+1) 0*zs.getD (j.toNat*5+at_.toNat*1) 0%31*30%31)%31)).set (j.toNat*5+2) ((zs.getD (j.toNat*5+2) 0+zs.getD (i.toNat*5+2) 0*zs.getD (j.toNat*5+at_.toNat*1) 0%31*30%31)%31)).set (j.toNat*5+3) ((zs.getD (j.toNat*5+3) 0+zs.getD (i.toNat*5+3) 0*zs.getD (j.toNat*5+at_.toNat*1) 0%31*30%31)%31)).length)&&(fok (((((zs.set (j.toNat*5) ((zs.getD (j.toNat*5) 0+zs.getD (i.toNat*5) 0*zs.getD (j.toNat*5+at_.toNat*1) 0%31*30%31)%31)).set (j.toNat*5+1) ((zs.getD (j.toNat*5+1) 0+zs.getD (i.toNat*5+1) 0*zs.getD (j.toNat*5+at_.toNat*1) 0%31*30%31)%31)).set (j.toNat*5+2) ((zs.getD (j.toNat*5+2) 0+zs.getD (i.toNat*5+2) 0*zs.getD (j.toNat*5+at_.toNat*1) 0%31*30%31)%31)).set (j.toNat*5+3) ((zs.getD (j.toNat*5+3) 0+zs.getD (i.toNat*5+3) 0*zs.getD (j.toNat*5+at_.toNat*1) 0%31*30%31)%31)).getD (i.toNat*5+4) 0)&&(fok (zs.getD (j.toNat*5+at_.toNat*1) 0)&&(fok (((((zs.set (j.toNat*5) ((zs.getD (j.toNat*5) 0+zs.getD (i.toNat*5) 0*zs.getD (j.toNat*5+at_.toNat*1) 0%31*30%31)%31)).set (j.toNat*5+1) ((zs.getD (j.toNat*5+1) 0+zs.getD (i.toNat*5+1) 0*zs.getD (j.toNat*5+at_.toNat*1) 0%31*30%31)%31)).set (j.toNat*5+2) ((zs.getD (j.toNat*5+2) 0+zs.getD (i.toNat*5+2) 0*zs.getD (j.toNat*5+at_.toNat*1) 0%31*30%31)%31)).set (j.toNat*5+3) ((zs.getD (j.toNat*5+3) 0+zs.getD (i.toNat*5+3) 0*zs.getD (j.toNat*5+at_.toNat*1) 0%31*30%31)%31)).getD (j.toNat*5+4) 0)&&(fok (((((zs.set (j.toNat*5) ((zs.getD (j.toNat*5) 0+zs.getD (i.toNat*5) 0*zs.getD (j.toNat*5+at_.toNat*1) 0%31*30%31)%31)).set (j.toNat*5+1) ((zs.getD (j.toNat*5+1) 0+zs.getD (i.toNat*5+1) 0*zs.getD (j.toNat*5+at_.toNat*1) 0%31*30%31)%31)).set (j.toNat*5+2) ((zs.getD (j.toNat*5+2) 0+zs.getD (i.toNat*5+2) 0*zs.getD (j.toNat*5+at_.toNat*1) 0%31*30%31)%31)).set (j.toNat*5+3) ((zs.getD (j.toNat*5+3) 0+zs.getD (i.toNat*5+3) 0*zs.getD (j.toNat*5+at_.toNat*1) 0%31*30%31)%31)).getD (i.toNat*5+4) 0*zs.getD (j.toNat*5+at_.toNat*1) 0%31)&&(decide (0≤j)&&(decide (j<(↑n:Int))&&((decide (j.toNat*5+4<((((zs.set (j.toNat*5) ((zs.getD (j.toNat*5) 0+zs.getD (i.toNat*5) 0*zs.getD (j.toNat*5+at_.toNat*1) 0%31*30%31)%31)).set (j.toNat*5+1) ((zs.getD (j.toNat*5+1) 0+zs.getD (i.toNat*5+1) 0*zs.getD (j.toNat*5+at_.toNat*1) 0%31*30%31)%31)).set (j.toNat*5+2) ((zs.getD (j.toNat*5+2) 0+zs.getD (i.toNat*5+2) 0*zs.getD (j.toNat*5+at_.toNat*1) 0%31*30%31)%31)).set (j.toNat*5+3) ((zs.getD (j.toNat*5+3) 0+zs.getD (i.toNat*5+3) 0*zs.getD (j.toNat*5+at_.toNat*1) 0%31*30%31)%31)).length))&&true))))))))))))))))))))))))))))))))))))))))))))))),[],iL n (nC zs i.toNat at_ j.toNat) i at_ (IntKind.i64.wrap (j+1))):=by kernel_rfl
theorem MU (n:Nat) (zs:List Int) (i at_ j:Int):aH 0 (aA f139 6) (aD f139 6) (aK tt (aB T20) [] 0 100 (a6 6 (a7 f139)) (iL n zs i at_ j) [(0,true),(0,true),(0,false)])=
  some (.normal,(decide (j<(↑n:Int))&&(decide (0≤j)&&(decide (j<(↑n:Int))&&(decide (0≤at_)&&(decide (at_<4)&&(decide (j.toNat*5+at_.toNat*1<zs.length)&&((j !=i)&&((j !=i)&&((!bif j !=i then zs.getD (j.toNat*5+at_.toNat*1) 0 !=0 else false)&&true))))))))),[],iL n (zs) i at_ (IntKind.i64.wrap (j+1))):=by kernel_rfl
theorem MV (n:Nat) (zs:List Int) (i at_ j:Int):aH 0 (aA f139 6) (aD f139 6) (aK tt (aB T20) [] 0 100 (a6 6 (a7 f139)) (iL n zs i at_ j) [(0,true),(0,false)])=
  some (.normal,(decide (j<(↑n:Int))&&(decide (0≤j)&&(decide (j<(↑n:Int))&&(decide (0≤at_)&&(decide (at_<4)&&(decide (j.toNat*5+at_.toNat*1<zs.length)&&((!j !=i)&&((!j !=i)&&((!j !=i)&&true))))))))),[],iL n (zs) i at_ (IntKind.i64.wrap (j+1))):=by kernel_rfl
theorem MW (n:Nat) (zs:List Int) (i at_ j:Int):aH 0 (aA f139 6) (aD f139 6) (aK tt (aB T20) [] 0 100 (a6 6 (a7 f139)) (iL n zs i at_ j) [(0,false)])=
  some (.exit 6,((!decide (j<(↑n:Int)))&&true),[],yV n (zs) i):=by kernel_rfl
theorem MR (n:Nat) (zs ts:List Int) (i:Int):aH 0 (aA f139 4) (aD f139 4) (aK tt (aB T20) [(6,⟨aA f139 6,iL n zs i (ld5 zs i.toNat) 0,.normal,yV n ts i⟩)] 0 100 (a6 4 (a7 f139)) (q7 n zs i) [(0,true)])=
  some (.normal,(decide (i<(↑n:Int))&&(decide (0≤i)&&(decide (i<(↑n:Int))&&((decide (i.toNat*5+4≤zs.length))&&true)))),[iL n zs i (ld5 zs i.toNat) 0=iL n zs i (ld5 zs i.toNat) 0],q7 n (ts) (IntKind.i64.wrap (i+1))):=by kernel_rfl
theorem MS (n:Nat) (zs ts:List Int) (i:Int) (lcv:List (Nat×LC)):aH 0 (aA f139 4) (aD f139 4) (aK tt (aB T20) lcv 0 100 (a6 4 (a7 f139)) (q7 n zs i) [(0,false)])=
  some (.exit 4,((!decide (i<(↑n:Int)))&&true),[],DG n (zs)):=by kernel_rfl
noncomputable def q8 (n:Nat) (zs out:List Int) (i:Int):St:=
 bA f139.ntmps [(6,.c (.ptr 0 0 0 0)),(7,.c (.ptr 1 0 0 0)),(128,.c (.sl 2 0 n 5 none)),(129,.c (.int .i64 n)),(130,.c (.int .i64 i))]
  [.live (.ints .i64 [0,0,0,0]),.live (.ints .i64 out),.live (.ints .i64 zs)]
noncomputable def DH (out:List Int):St:=
 bA f139.ntmps [(6,.c (.ptr 0 0 0 0)),(7,.c (.ptr 1 0 0 0))] [.live (.ints .i64 [0,0,0,0]),.live (.ints .i64 out)]
theorem MX (n:Nat) (zs out:List Int) (i:Int):aH 0 (aA f139 8) (aD f139 8) (aK tt (aB T20) [] 0 100 (a6 8 (a7 f139)) (q8 n zs out i) [(0,true)])=
  some (.normal,(decide (i<(↑n:Int))&&(decide (0≤i)&&(decide (i<(↑n:Int))&&(decide (i.toNat*5+5≤zs.length)&&(decide (0≤ld5 zs i.toNat)&&(decide (ld5 zs i.toNat<4)&&((decide ((ld5 zs i.toNat).toNat<out.length))&&true))))))),[],q8 n zs (out.set (ld5 zs i.toNat).toNat (zs.getD (i.toNat*5+4) 0)) (IntKind.i64.wrap (i+1))):=by kernel_rfl
theorem MY (n:Nat) (zs out:List Int) (i:Int):aH 0 (aA f139 8) (aD f139 8) (aK tt (aB T20) [] 0 100 (a6 8 (a7 f139)) (q8 n zs out i) [(0,false)])=
  some (.exit 8,((!decide (i<(↑n:Int)))&&true),[],DH (out)):=by kernel_rfl
end
section
theorem b8 {n lo hi:Int}:bet n lo hi=true↔lo≤n∧n≤hi:=by simp[bet]
def O5 (w v kk:List Int) (j:Nat) (x:Int):Int:=(x+kk.getD (j*1+4) 0*w.getD (v.getD j 0).toNat 0%31)%31
def AU (w v kk:List Int):Int:=bP (O5 w v kk) v.length 0 0
theorem X7 (w v ys:List Int) (r n:Nat) (zs kk:List Int) (i:Int) (hv:v.length≤8) (hs:aM v=true) (hw:w.length=8) (hwf:a9 w=true) (hk:kk.length=12) (hkf:a9 kk=true):
  aW Tryz.prog 0 (.block 2 (.loop (a6 2 (a7 f139)))) (mV w v ys r n zs kk i 0 0) fun e t=>e=.normal∧t=yU w v ys r n zs kk i (AU w v kk):=by
 refine aW.count hT t20 bM v.length (fun _ x=>fok x=true) (fun j x=>mV w v ys r n zs kk i x j) (fun x=>yU w v ys r n zs kk i x) (O5 w v kk) (aA f139 2) (aD f139 2)
  (fun _ _=>[]) (fun _ _ _ _=>aF.nil) (fun j x hj hx=>⟨c9 _, ?_⟩) (fun x hx=>⟨_,_,⟨_,_,MQ w v ys r n zs kk i x v.length,by simp,by simp⟩⟩) 0 rfl
 ·have hb:=b8.1 (cD hs hj)
  have e:=MP w v ys r n zs kk i x j
  rw[aE (by omega) (by omega),Int.toNat_natCast]at e
  refine⟨_,_,⟨_,_,e, ?_,by simp⟩⟩
  simp only[aR hkf,aR hwf,hx,c9,Bool.true_and,Bool.and_true,Bool.and_eq_true,decide_eq_true_eq]
  omega
def jY (w v ys:List Int) (i:Nat) (zs:List Int):List Int:=zs++[ys.getD (i*12) 0,ys.getD (i*12+1) 0,ys.getD (i*12+2) 0,ys.getD (i*12+3) 0,AU w v (lN ys i)]
def m6 (w v ys:List Int) (r:Nat):List Int:=bP (jY w v ys) r 0 []
theorem K3 {ys:List Int} (h:a9 ys=true) (i:Nat):a9 (lN ys i)=true:=by
 simp only[a9,lN,List.all_cons,List.all_nil,aR h,Bool.and_self]
theorem K6 {step:Nat→Int→Int} (f i:Nat) (b:Int) (hb:fok b=true) (h: ∀k x,fok (step k x)=true):fok (bP step f i b)=true:=
 tW (fun _ x=>fok x=true) f i b hb fun k x _ _ _=>h k x
theorem KE (w v kk:List Int):fok (AU w v kk)=true:=K6 _ _ _ rfl fun _ _=>c9 _
theorem AS {w v ys:List Int} (hy:a9 ys=true) {i:Nat} {zs:List Int} (h:zs.length=i*5∧a9 zs=true):(jY w v ys i zs).length=(i+1)*5∧a9 (jY w v ys i zs)=true:=by
 refine⟨by simp[jY,h.1];omega,eI h.2 ?_⟩
 simp only[a9,List.all_cons,List.all_nil,aR hy,KE,Bool.and_self]
theorem AR {w v ys:List Int} (hy:a9 ys=true) (r:Nat):(m6 w v ys r).length=r*5∧a9 (m6 w v ys r)=true:=
 bH (fun i zs=>zs.length=i*5∧a9 zs=true) r [] ⟨rfl,rfl⟩ fun k b _ h=>AS hy h
theorem LJ:a6 2 (a6 0 (a7 f139))=a6 2 (a7 f139):=by kernel_rfl
theorem LK:a6 6 (a6 4 (a7 f139))=a6 6 (a7 f139):=by kernel_rfl
theorem X6 (w v ys:List Int) (r:Nat) (hv:v.length≤8) (hs:aM v=true) (hw:w.length=8) (hwf:a9 w=true) (hr:r≤8) (hy:ys.length=r*12) (hyf:a9 ys=true):
  aW Tryz.prog 0 (.block 0 (.loop (a6 0 (a7 f139)))) (q6 w v ys r 0 [] 0) fun e t=>e=.normal∧t=DF (m6 w v ys r) r:=by
 refine(aW.count hT t20 bM r (fun i zs=>zs.length=i*5∧a9 zs=true) (fun i zs=>q6 w v ys r i zs i) (fun zs=>DF zs r) (jY w v ys) (aA f139 0) (aD f139 0)
  (fun i zs=>[(2,⟨aA f139 2,mV w v ys r i zs (lN ys i) i 0 0,.normal,yU w v ys r i zs (lN ys i) i (AU w v (lN ys i))⟩)])
  (fun i zs _ h=>aF.cons (by kernel_rfl) (by rw[LJ];exact X7 w v ys r i zs (lN ys i) i hv hs hw hwf rfl (K3 hyf i)) aF.nil)
  (fun i zs hi h=>⟨AS hyf h, ?_⟩)
  (fun zs h=>⟨_,_,⟨_,_,MO w v ys r r zs r 0 [],by simp,by simp⟩⟩)) [] ⟨rfl,rfl⟩
 ·have e:=MN w v ys r i zs i (AU w v (lN ys i))
  rw[aE (by omega) (by omega),Int.toNat_natCast]at e
  refine⟨_,_,⟨_,_,e, ?_,by simp⟩⟩
  simp only[Bool.true_and,Bool.and_true,Bool.and_eq_true,decide_eq_true_eq]
  omega
theorem aX (l:List Int) (a b:Nat) (x d:Int):(l.set a x).getD b d=if a=b∧a<l.length then x else l.getD b d:=by
 rw[List.getD_eq_getElem?_getD,List.getElem?_set]
 by_cases h:a=b
 ·subst h
  by_cases h2:a<l.length
  ·simp[h2]
  ·simp[h2,List.getD_eq_getElem?_getD,List.getElem?_eq_none (Nat.le_of_not_lt h2)]
 ·simp[h,List.getD_eq_getElem?_getD]
theorem fgs {l:List Int} {a b:Nat} {x:Int} (hl: ∀b,fok (l.getD b 0)=true) (hx:fok x=true):fok ((l.set a x).getD b 0)=true:=by
 rw[aX];split
 ·exact hx
 ·exact hl b
theorem cZ {l:List Int} {a:Nat} {x:Int} (hl:a9 l=true) (hx:fok x=true):a9 (l.set a x)=true:=by
 simp only[a9,List.all_eq_true]at hl⊢
 intro y hy
 rcases List.mem_or_eq_of_mem_set hy with h|h
 ·exact hl y h
 ·rw[h];exact hx
theorem HX {zs:List Int} (h:a9 zs=true) (i j:Nat) (at_:Int):a9 (lQ zs i at_ j)=true:=
 cZ (cZ (cZ (cZ h (c9 _)) (c9 _)) (c9 _)) (c9 _)
theorem HY {zs:List Int} (h:a9 zs=true) (i j:Nat) (at_:Int):a9 (nC zs i at_ j)=true:=cZ (HX h i j at_) (c9 _)
theorem l3 (zs:List Int) (i j:Nat) (at_:Int):(nC zs i at_ j).length=zs.length:=by simp[nC,lQ,K7]
def jV (i:Nat) (at_:Int) (j:Nat) (zs:List Int):List Int:=bif ((j:Int)!=(i:Int))&&(elC zs at_ j !=0)then nC zs i at_ j else zs
def vM (n i:Nat) (at_:Int) (zs:List Int):List Int:=bP (jV i at_) n 0 zs
theorem zI {n:Nat} {i:Nat} {at_:Int} {j:Nat} {zs:List Int} (h:zs.length=n*5∧a9 zs=true):(jV i at_ j zs).length=n*5∧a9 (jV i at_ j zs)=true:=by
 unfold jV
 cases ((j:Int)!=(i:Int))&&(elC zs at_ j !=0)
 ·exact h
 ·exact⟨by rw[cond_true,l3];exact h.1,HY h.2 i j at_⟩
theorem sT {n:Nat} {i:Nat} {at_:Int} {zs:List Int} (h:zs.length=n*5∧a9 zs=true):(vM n i at_ zs).length=n*5∧a9 (vM n i at_ zs)=true:=
 bH (fun _ zs=>zs.length=n*5∧a9 zs=true) n zs h fun k b _ h=>zI h
theorem X9 (n:Nat) (zs:List Int) (i:Nat) (at_:Int) (hn:n≤8) (hi:i<n) (ha:bet at_ 0 3=true) (hz:zs.length=n*5) (hf:a9 zs=true):
  aW Tryz.prog 0 (.block 6 (.loop (a6 6 (a7 f139)))) (iL n zs i at_ 0) fun e t=>e=.normal∧t=yV n (vM n i at_ zs) i:=by
 have ha':=b8.1 ha
 refine aW.count hT t20 bM n (fun _ zs=>zs.length=n*5∧a9 zs=true) (fun j zs=>iL n zs i at_ j) (fun zs=>yV n zs i) (jV i at_) (aA f139 6) (aD f139 6)
  (fun _ _=>[]) (fun _ _ _ _=>aF.nil) (fun j zs hj h=>⟨zI h, ?_⟩) (fun zs h=>⟨_,_,⟨_,_,MW n zs i at_ n,by simp,by simp⟩⟩) zs ⟨hz,hf⟩
 obtain⟨h1,h2⟩:=h
 unfold jV
 cases c1:((j:Int)!=(i:Int))with
 |false=>
  have e:=MV n zs i at_ j
  rw[aE (by omega) (by omega),Int.toNat_natCast]at e
  refine⟨_,_,⟨_,_,e, ?_,by simp⟩⟩
  rw[c1]
  simp only[Bool.true_and,Bool.and_true,Bool.not_false,Bool.and_eq_true,decide_eq_true_eq]
  omega
 |true=>
  cases c2:(elC zs at_ j !=0)with
  |false=>
   have e:=MU n zs i at_ j
   rw[aE (by omega) (by omega),Int.toNat_natCast]at e
   refine⟨_,_,⟨_,_,e, ?_,by simp⟩⟩
   unfold elC at c2
   rw[c1,c2]
   simp only[Bool.true_and,Bool.and_true,Bool.not_false,Bool.and_eq_true,decide_eq_true_eq,cond_true]
   omega
  |true=>
   have e:=MT n zs i at_ j
   rw[aE (by omega) (by omega),Int.toNat_natCast,Int.toNat_natCast]at e
   refine⟨_,_,⟨_,_,e, ?_,by simp⟩⟩
   unfold elC at c2
   rw[c1,c2]
   simp (maxDischargeDepth:=12) only[aR h2,fgs,c9,implies_true,List.length_set,Bool.true_and,Bool.and_true,Bool.not_false,Bool.and_eq_true,decide_eq_true_eq,cond_true,true_and,and_true]
   omega
def lM (n i:Nat) (zs:List Int):List Int:=vM n i (ld5 zs i) zs
def a11 (n:Nat) (zs:List Int):List Int:=bP (lM n) n 0 zs
def i8 (n:Nat):Nat→Nat→List Int→Bool
 |0,_,_=>true
 |f+1,i,zs=>bet (ld5 zs i) 0 3&&i8 n f (i+1) (lM n i zs)
def JV (n:Nat) (zs:List Int):Bool:=i8 n n 0 zs
theorem X8 (n:Nat) (zs:List Int) (hn:n≤8) (hz:zs.length=n*5) (hf:a9 zs=true) (hr:JV n zs=true):
  aW Tryz.prog 0 (.block 4 (.loop (a6 4 (a7 f139)))) (q7 n zs 0) fun e t=>e=.normal∧t=DG n (a11 n zs):=by
 refine(aW.count hT t20 bM n (fun i zs=>(zs.length=n*5∧a9 zs=true)∧i8 n (n-i) i zs=true) (fun i zs=>q7 n zs i) (fun zs=>DG n zs) (lM n) (aA f139 4) (aD f139 4)
  (fun i zs=>[(6,⟨aA f139 6,iL n zs i (ld5 zs i) 0,.normal,yV n (lM n i zs) i⟩)]) (fun i zs hi h=> ?_) (fun i zs hi h=> ?_) (fun zs h=> ?_)) zs ⟨⟨hz,hf⟩,hr⟩
 ·obtain⟨h1,h2⟩:=h
  rw[show n-i=(n-(i+1))+1 from by omega]at h2
  simp only[i8,Bool.and_eq_true]at h2
  exact aF.cons (by kernel_rfl) (by rw[LK];exact X9 n zs i (ld5 zs i) hn hi h2.1 h1.1 h1.2) aF.nil
 ·obtain⟨h1,h2⟩:=h
  rw[show n-i=(n-(i+1))+1 from by omega]at h2
  simp only[i8,Bool.and_eq_true]at h2
  refine⟨⟨sT h1,h2.2⟩, ?_⟩
  have e:=MR n zs (lM n i zs) i
  rw[aE (by omega) (by omega),Int.toNat_natCast]at e
  refine⟨_,_,⟨_,_,e, ?_,by simp⟩⟩
  simp only[Bool.true_and,Bool.and_true,Bool.and_eq_true,decide_eq_true_eq]
  omega
 ·have e:=MS n zs zs n []
  exact⟨_,_,⟨_,_,e,by simp,by simp⟩⟩
end
section
def uV (zs:List Int) (i:Nat) (out:List Int):List Int:=out.set (ld5 zs i).toNat (zs.getD (i*5+4) 0)
def uU (zs:List Int) (n:Nat):List Int:=bP (uV zs) n 0 [0,0,0,0]
def JE (zs:List Int) (n:Nat):Bool:=cB (fun i=>bet (ld5 zs i) 0 3) n
theorem JP (zs:List Int) (n:Nat):(uU zs n).length=4:=bH (step:=uV zs) (fun _ o=>o.length=4) n [0,0,0,0] rfl fun k b _ h=>by simp[uV,h]
theorem JO {zs:List Int} (h:a9 zs=true) (n:Nat):a9 (uU zs n)=true:=bH (step:=uV zs) (fun _ o=>a9 o=true) n [0,0,0,0] rfl fun k b _ hb=>cZ hb (aR h _)
theorem XA (n:Nat) (zs:List Int) (hn:n≤8) (hz:zs.length=n*5) (hl:JE zs n=true):
  aW Tryz.prog 0 (.block 8 (.loop (a6 8 (a7 f139)))) (q8 n zs [0,0,0,0] 0) fun e t=>e=.normal∧t=DH (uU zs n):=by
 refine aW.count hT t20 bM n (fun _ o=>o.length=4) (fun i o=>q8 n zs o i) (fun o=>DH o) (uV zs) (aA f139 8) (aD f139 8)
  (fun _ _=>[]) (fun _ _ _ _=>aF.nil) (fun i o hi h=>⟨by simp[uV,h], ?_⟩) (fun o h=>⟨_,_,⟨_,_,MY n zs o n,by simp,by simp⟩⟩) [0,0,0,0] rfl
 have hb:=b8.1 (aY hl i hi)
 have e:=MX n zs o i
 rw[aE (by omega) (by omega),Int.toNat_natCast]at e
 refine⟨_,_,⟨_,_,e, ?_,by simp⟩⟩
 simp only[Bool.true_and,Bool.and_true,Bool.and_eq_true,decide_eq_true_eq]
 omega
def spK (k:Int) (v:List Int):List Int×List Int:=cL (cG k v) v.length
def AQ (k:Int) (w v:List Int):List Int:=m6 w v (spK k v).1 (spK k v).2.length
def eO (k:Int) (w v:List Int):List Int:=a11 (spK k v).2.length (AQ k w v)
def dS (k:Int) (w v:List Int):List Int:=uU (eO k w v) (spK k v).2.length
def dU (k:Int) (w v:List Int):Bool:=JV (spK k v).2.length (AQ k w v)&&JE (eO k w v) (spK k v).2.length
def QC (l:List Int):List aJ:=[.int .i64 (l.getD 0 0),.int .i64 (l.getD 1 0),.int .i64 (l.getD 2 0),.int .i64 (l.getD 3 0)]
noncomputable def a5B (k:Int) (w v:List Int):List (Nat×LC):=
  [(0,⟨aA f139 0,q6 w v (spK k v).1 (spK k v).2.length 0 [] 0,.normal,DF (AQ k w v) (spK k v).2.length⟩),
   (4,⟨aA f139 4,q7 (spK k v).2.length (AQ k w v) 0,.normal,DG (spK k v).2.length (eO k w v)⟩),
   (8,⟨aA f139 8,q8 (spK k v).2.length (eO k w v) [0,0,0,0] 0,.normal,DH (dS k w v)⟩)]
theorem UV (k:Int) (w v:List Int):aG tt (aB T20) (a5B k w v) 100 f139 [.c (.int .i64 k),.c (.view none (.ints .i64 w) w.length 1 none),.c (.view none (.ints .i64 v) v.length 1 none)] [] []=
  some ⟨.agg [.int .i64 ((dS k w v).getD 0 0),.int .i64 ((dS k w v).getD 1 0),.int .i64 ((dS k w v).getD 2 0),.int .i64 ((dS k w v).getD 3 0)],[],(decide (v.length≤274877906944)&&(bet k 1 2&&(aM v&&(decide (v.length*4=(cG k v).length)&&(decide (v.length≤8)&&(a9 (cG k v)&&((decide (4≤(dS k w v).length))&&true))))))),[q6 w v (spK k v).1 (spK k v).2.length 0 [] 0=q6 w v (spK k v).1 (spK k v).2.length 0 [] 0,q7 (spK k v).2.length (AQ k w v) 0=q7 (spK k v).2.length (AQ k w v) 0,q8 (spK k v).2.length (eO k w v) [0,0,0,0] 0=q8 (spK k v).2.length (eO k w v) [0,0,0,0] 0]⟩:=by kernel_rfl
def x9:aQ:=fun args h=>
 match args,h with
 |[.c (.int .i64 k),.c (.view _ (.ints .i64 w) n 1 _),.c (.view _ (.ints .i64 v) n2 1 _)],[]=>
  some (.agg (QC (dS k w v)),[],[decide (v.length≤8),bet k 1 2,aM v,decide (w.length=8),a9 w,dU k w v])
 |_,_=>none
theorem wH (n:Nat) (xs:List Int): ∀(f i:Nat) (s:List Int×List Int),(s.1.length=s.2.length*12∧s.2.length≤i∧(a9 xs=true→a9 s.1=true))→
  (fE xs f i s).1.length=(fE xs f i s).2.length*12∧(fE xs f i s).2.length≤i+f∧(a9 xs=true→a9 (fE xs f i s).1=true)
 |0,i,s,h=>h
 |f+1,i,s,h=>by
  simp only[fE]
  have:=wH n xs f (i+1) (bif decide (ld4 (KK xs s.1 s.2.length i)<0)then s else(s.1++oneK (KK xs s.1 s.2.length i),s.2++[(i:Int)])) ?_
  ·rw[show i+(f+1)=i+1+f from by omega];exact this
  ·obtain⟨h1,h2,h3⟩:=h
   cases decide (ld4 (KK xs s.1 s.2.length i)<0)
   ·refine⟨by simp[tK,h1];omega,by simp;omega,fun hx=>eI (h3 hx) (A1 _)⟩
   ·exact⟨h1,by rw[cond_true];omega,h3⟩
theorem rT {k:Int} {v:List Int} (hk:bet k 1 2=true) (hv:aM v=true):(spK k v).1.length=(spK k v).2.length*12∧(spK k v).2.length≤v.length∧a9 (spK k v).1=true:=by
 have:=wH v.length (cG k v) v.length 0 ([],[]) ⟨rfl,by simp,fun _=>rfl⟩
 exact⟨this.1,by have:=this.2.1;unfold spK cL;omega,this.2.2 (hB hk hv)⟩
theorem a6Y:aV Tryz.prog 152 x9:=by
 intro args h res h' o hnorm he ho
 unfold x9 at he
 split at he
 case h_2=>cases he
 rename_i k nl w n cap nl2 v n2 cap2
 simp only[Option.some.injEq,Prod.mk.injEq]at he
 obtain⟨rfl,rfl,rfl⟩:=he
 simp only[List.mem_cons,List.not_mem_nil,or_false,forall_eq_or_imp,forall_eq,decide_eq_true_eq]at ho
 obtain⟨o1,o2,o3,o4,o5,o6⟩:=ho
 simp only[bG,AV.norm,bI,aJ.norm,Con.size,List.cons.injEq,AV.c.injEq,AV.agg.injEq,aJ.view.injEq,aN,true_and,and_true]at hnorm
 obtain⟨⟨rfl,rfl,rfl⟩,rfl,rfl,rfl⟩:=hnorm
 obtain⟨s1,s2,s3⟩:=rT o2 o3
 simp only[dU,Bool.and_eq_true]at o6
 have t1:=AR (w:=w) (v:=v) s3 (spK k v).2.length
 have t2:(eO k w v).length=(spK k v).2.length*5∧a9 (eO k w v)=true:=bH (step:=lM (spK k v).2.length) (fun _ zs=>zs.length=(spK k v).2.length*5∧a9 zs=true) _ _ t1 fun i zs _ h=>sT h
 refine a5 t20 (fn:=f139) (by kernel_rfl) (by kernel_rfl) (UV k w v) (by simp[o1,o2,o3,hB,lE,dS,JP];omega) (by simp)
  (fun cc hc=>aF.cons (c:=cc) (by cases hc;kernel_rfl) (by cases hc;exact X6 w v (spK k v).1 (spK k v).2.length o1 o3 o4 o5 (by omega) s1 s3)
   (aF.cons (by cases hc;kernel_rfl) (by cases hc;exact X8 _ _ (by omega) t1.1 t1.2 o6.1) (aF.cons (by cases hc;kernel_rfl) (by cases hc;exact XA _ _ (by omega) t2.1 o6.2) aF.nil)))
end
section
def T21:List bF:=[⟨152,[],nm x9⟩]++T20
theorem e21:a8 Tryz.prog T21:=by
 refine a8.append ?_ e20
 intro e he
 simp only[List.mem_cons,List.not_mem_nil,or_false]at he
 subst he;exact a6Y.ok
theorem t21:bN Tryz.prog (aB T21):=aP e21
noncomputable abbrev f121:=Tryz.f135
noncomputable def k8 (k:Int) (w v d:List Int) (i:Int):St:=
 bA f121.ntmps [(0,.c (.int .i64 k)),(1,.c (.view none (.ints .i64 w) w.length 1 none)),(7,.c (.ptr 0 0 0 0)),(14,.c (.view none (.ints .i64 v) v.length 1 none)),(15,.c (.int .i64 v.length)),(16,.c (.int .i64 i))]
  [.live (.ints .i64 [d.getD 0 0,d.getD 1 0,d.getD 2 0,d.getD 3 0])]
noncomputable def H2:St:=bA f121.ntmps [] []
noncomputable def H7:St:=bA f121.ntmps [(6,.c (.bool false))] []
theorem S3 (k:Int) (w v d:List Int) (i:Int):aH 0 (aA f121 0) (aD f121 0) (aK tt (aB T21) ([]) 0 100 (a6 0 (a7 f121)) (k8 k w v d i) [(0,true),(0,true)])=
  some (.ret,(decide (i<(↑v.length:Int))&&(decide (0≤i)&&(decide (i<(↑v.length:Int))&&(decide (i.toNat<v.length)&&(bet k 1 2&&(bet (v.getD i.toNat 0) 0 7&&(fok ((aL k (v.getD i.toNat 0)).getD 0 0)&&(fok (d.getD 0 0)&&(fok ((aL k (v.getD i.toNat 0)).getD 1 0)&&(fok (d.getD 1 0)&&(fok ((aL k (v.getD i.toNat 0)).getD 2 0)&&(fok (d.getD 2 0)&&(fok ((aL k (v.getD i.toNat 0)).getD 3 0)&&(fok (d.getD 3 0)&&(decide (0≤v.getD i.toNat 0)&&(decide (v.getD i.toNat 0<(↑w.length:Int))&&(decide ((v.getD i.toNat 0).toNat<w.length)&&((CF ((aL k (v.getD i.toNat 0)).getD 0 0) ((aL k (v.getD i.toNat 0)).getD 1 0) ((aL k (v.getD i.toNat 0)).getD 2 0) ((aL k (v.getD i.toNat 0)).getD 3 0) (d.getD 0 0) (d.getD 1 0) (d.getD 2 0) (d.getD 3 0)!=w.getD (v.getD i.toNat 0).toNat 0)&&true)))))))))))))))))),[],H7):=by kernel_rfl
theorem S4 (k:Int) (w v d:List Int) (i:Int):aH 0 (aA f121 0) (aD f121 0) (aK tt (aB T21) ([]) 0 100 (a6 0 (a7 f121)) (k8 k w v d i) [(0,true),(0,false)])=
  some (.normal,(decide (i<(↑v.length:Int))&&(decide (0≤i)&&(decide (i<(↑v.length:Int))&&(decide (i.toNat<v.length)&&(bet k 1 2&&(bet (v.getD i.toNat 0) 0 7&&(fok ((aL k (v.getD i.toNat 0)).getD 0 0)&&(fok (d.getD 0 0)&&(fok ((aL k (v.getD i.toNat 0)).getD 1 0)&&(fok (d.getD 1 0)&&(fok ((aL k (v.getD i.toNat 0)).getD 2 0)&&(fok (d.getD 2 0)&&(fok ((aL k (v.getD i.toNat 0)).getD 3 0)&&(fok (d.getD 3 0)&&(decide (0≤v.getD i.toNat 0)&&(decide (v.getD i.toNat 0<(↑w.length:Int))&&(decide ((v.getD i.toNat 0).toNat<w.length)&&((!CF ((aL k (v.getD i.toNat 0)).getD 0 0) ((aL k (v.getD i.toNat 0)).getD 1 0) ((aL k (v.getD i.toNat 0)).getD 2 0) ((aL k (v.getD i.toNat 0)).getD 3 0) (d.getD 0 0) (d.getD 1 0) (d.getD 2 0) (d.getD 3 0)!=w.getD (v.getD i.toNat 0).toNat 0)&&true)))))))))))))))))),[],k8 k w v d (IntKind.i64.wrap (i+1))):=by kernel_rfl
theorem S5 (k:Int) (w v d:List Int) (i:Int):aH 0 (aA f121 0) (aD f121 0) (aK tt (aB T21) ([]) 0 100 (a6 0 (a7 f121)) (k8 k w v d i) [(0,false)])=
  some (.exit 0,((!decide (i<(↑v.length:Int)))&&true),[],H2):=by kernel_rfl
def xV (k:Int) (w v d:List Int) (i:Nat):Bool:= !(c8 k d (v.getD i 0)!=w.getD (v.getD i 0).toNat 0)
def cJ (k:Int) (w v:List Int):Bool:=cC (xV k w v (dS k w v)) v.length 0
theorem hR {k a:Int} (hk:bet k 1 2=true) (ha:bet a 0 7=true):a9 (aL k a)=true:=by
 refine JJ (q:=fun k a=>a9 (aL k a)=true) (fun i hi=> ?_) hk ha
 have all:cB (fun k=>a9 (aL ((k/8:Nat)+1:Int) (k%8:Nat))) 16=true:=by kernel_rfl
 exact aY all i hi
theorem DW (k:Int) (d:List Int) (a:Int):CF ((aL k a).getD 0 0) ((aL k a).getD 1 0) ((aL k a).getD 2 0) ((aL k a).getD 3 0) (d.getD 0 0) (d.getD 1 0) (d.getD 2 0) (d.getD 3 0)=c8 k d a:=rfl
theorem a5M (k:Int) (w v d:List Int) (hk:bet k 1 2=true) (hv:v.length≤8) (hs:aM v=true) (hw:w.length=8) (hd:a9 d=true):
  aW Tryz.prog 0 (.block 0 (.loop (a6 0 (a7 f121)))) (k8 k w v d 0) fun e t=>e=(bif cC (xV k w v d) v.length 0 then .normal else .ret)∧t=bif cC (xV k w v d) v.length 0 then H2 else H7:=by
 have common: ∀i,i<v.length→bet (v.getD i 0) 0 7=true∧a9 (aL k (v.getD i 0))=true:=fun i hi=>⟨cD hs hi,hR hk (cD hs hi)⟩
 refine aW.all hT t21 bM v.length (xV k w v d) (fun i=>k8 k w v d i) H2 H7 .ret (.inr rfl) (aA f121 0) (aD f121 0) (fun _=>[]) (fun _ _=>aF.nil) (fun i hi h=> ?_) (fun i hi h=> ?_)
  ⟨_,_,⟨_,_,S5 k w v d v.length,by simp,by simp⟩⟩
 ·obtain⟨h1,h2⟩:=common i hi
  have h3:=b8.1 h1
  have e:=S4 k w v d i
  simp only[DW]at e
  rw[aE (by omega) (by omega),Int.toNat_natCast]at e
  refine⟨_,_,⟨_,_,e, ?_,by simp⟩⟩
  unfold xV at h
  simp only[h,hk,h1,aR h2,aR hd,Bool.true_and,Bool.and_true,Bool.and_eq_true,decide_eq_true_eq]
  omega
 ·obtain⟨h1,h2⟩:=common i hi
  have h3:=b8.1 h1
  have e:=S3 k w v d i
  simp only[DW]at e
  rw[Int.toNat_natCast]at e
  refine⟨_,_,⟨_,_,e, ?_,by simp⟩⟩
  unfold xV at h
  rw[Bool.not_eq_false']at h
  simp only[h,hk,h1,aR h2,aR hd,Bool.true_and,Bool.and_true,Bool.and_eq_true,decide_eq_true_eq]
  omega
theorem UI (k:Int) (w v:List Int):aG tt (aB T21) ([(0,⟨aA f121 0,k8 k w v (dS k w v) 0,.normal,H2⟩)]) 100 f121 [.c (.int .i64 k),.c (.view none (.ints .i64 w) w.length 1 none),.c (.view none (.ints .i64 v) v.length 1 none)] [] []=
  some ⟨.c (.bool true),[],(decide (v.length≤8)&&(bet k 1 2&&(aM v&&(decide (w.length=8)&&(a9 w&&((dU k w v)&&true)))))),[k8 k w v (dS k w v) 0=k8 k w v (dS k w v) 0]⟩:=by kernel_rfl
theorem OB (k:Int) (w v:List Int):aG tt (aB T21) ([(0,⟨aA f121 0,k8 k w v (dS k w v) 0,.ret,H7⟩)]) 100 f121 [.c (.int .i64 k),.c (.view none (.ints .i64 w) w.length 1 none),.c (.view none (.ints .i64 v) v.length 1 none)] [] []=
  some ⟨.c (.bool false),[],(decide (v.length≤8)&&(bet k 1 2&&(aM v&&(decide (w.length=8)&&(a9 w&&((dU k w v)&&true)))))),[k8 k w v (dS k w v) 0=k8 k w v (dS k w v) 0]⟩:=by kernel_rfl
def B8:aQ:=fun args h=>
 match args,h with
 |[.c (.int .i64 k),.c (.view _ (.ints .i64 w) n 1 _),.c (.view _ (.ints .i64 v) n2 1 _)],[]=>
  some (.c (.bool (cJ k w v)),[],[decide (v.length≤8),bet k 1 2,aM v,decide (w.length=8),a9 w,dU k w v])
 |_,_=>none
theorem u6 {k:Int} {w v:List Int} (hk:bet k 1 2=true) (hv:aM v=true):a9 (dS k w v)=true:=by
 obtain⟨s1,s2,s3⟩:=rT hk hv
 have t1:=AR (w:=w) (v:=v) s3 (spK k v).2.length
 have t2:(eO k w v).length=(spK k v).2.length*5∧a9 (eO k w v)=true:=bH (step:=lM (spK k v).2.length) (fun _ zs=>zs.length=(spK k v).2.length*5∧a9 zs=true) _ _ t1 fun i zs _ h=>sT h
 exact JO t2.2 _
theorem a6M:aV Tryz.prog 135 B8:=by
 intro args h res h' o hnorm he ho
 unfold B8 at he
 split at he
 case h_2=>cases he
 rename_i k nl w n cap nl2 v n2 cap2
 simp only[Option.some.injEq,Prod.mk.injEq]at he
 obtain⟨rfl,rfl,rfl⟩:=he
 simp only[List.mem_cons,List.not_mem_nil,or_false,forall_eq_or_imp,forall_eq,decide_eq_true_eq]at ho
 obtain⟨o1,o2,o3,o4,o5,o6⟩:=ho
 simp only[bG,AV.norm,bI,aJ.norm,Con.size,List.cons.injEq,AV.c.injEq,AV.agg.injEq,aJ.view.injEq,aN,true_and,and_true]at hnorm
 obtain⟨⟨rfl,rfl,rfl⟩,rfl,rfl,rfl⟩:=hnorm
 have g:=a5M k w v (dS k w v) o2 o1 o3 o4 (u6 o2 o3)
 unfold cJ
 cases hx:cC (xV k w v (dS k w v)) v.length 0 with
 |true=>
  rw[hx]at g
  exact a5 t21 (fn:=f121) (lc:=[(0,⟨aA f121 0,k8 k w v (dS k w v) 0,.normal,H2⟩)]) (fuel:=100) (p:=[]) (o:=⟨_,_,_,[k8 k w v (dS k w v) 0=k8 k w v (dS k w v) 0]⟩)
   (by kernel_rfl) (by kernel_rfl) (UI k w v) (by simp[o1,o2,o3,o4,o5,o6]) (by simp) (fun cc hc=>aF.cons (c:=cc) (by cases hc;kernel_rfl) (by cases hc;exact g) aF.nil)
 |false=>
  rw[hx]at g
  exact a5 t21 (fn:=f121) (lc:=[(0,⟨aA f121 0,k8 k w v (dS k w v) 0,.ret,H7⟩)]) (fuel:=100) (p:=[]) (o:=⟨_,_,_,[k8 k w v (dS k w v) 0=k8 k w v (dS k w v) 0]⟩)
   (by kernel_rfl) (by kernel_rfl) (OB k w v) (by simp[o1,o2,o3,o4,o5,o6]) (by simp) (fun cc hc=>aF.cons (c:=cc) (by cases hc;kernel_rfl) (by cases hc;exact g) aF.nil)
end
section
theorem CR0.nilCases {w:World} {L:Nat→Prop} {ρ:Rho} {c:Con} {len es:Nat} {cap:Option Nat} {v:Value} (h:CR0 w L ρ (.view none c len es cap) v):
  CR0 w L ρ (.view (some false) c len es cap) v∨(c.size=0∧CR0 w L ρ (.view (some true) c len es cap) v):=by
 cases h with
 |view nl c len es cap b base k u hl hc hu hz hk hcap hnl=>exact .inl (.view _ c len es cap b base k u hl hc hu hz hk hcap fun x h=>by injection h with h;exact h.symm)
 |viewNone nl c es cap a k hz hcap hnl hk=>
  cases a with
  |none=>exact .inr ⟨hz,.viewNone _ c es cap none k hz hcap (fun x h=>by injection h with h;exact h.symm) hk⟩
  |some a=>exact .inl (.viewNone _ c es cap (some a) k hz hcap (fun x h=>by injection h with h;exact h.symm) hk)
theorem bE.nilCases {P:Program} {f:FuncId} {c:Con} {len es:Nat} {cap:Option Nat} {h h':List b9} {res:AV} (h1:bE P f [.c (.view (some false) c len es cap)] h res h')
  (h2:c.size=0→bE P f [.c (.view (some true) c len es cap)] h res h'):bE P f [.c (.view none c len es cap)] h res h':=by
 refine⟨h1.1,fun {X w0 ρ0} m vs hl hv=> ?_⟩
 have h0:=hv 0 (by simp)
 simp only[List.getD_cons_zero]at h0
 cases h0 with
 |c x v hx=>
  rcases CR0.nilCases hx with hx|⟨hz,hx⟩
  ·exact h1.2 m vs hl fun q hq=>by
    match q,hq with
    |0,_=>exact .c _ _ hx
  ·exact(h2 hz).2 m vs hl fun q hq=>by
    match q,hq with
    |0,_=>exact .c _ _ hx
theorem Mem.addNil {X:Nat→Prop} {w0 w:World} {M:Nat→Prop} {h:List b9} {ρ:Rho} (m:Mem X w0 M h ρ w) {c0:Con} (hc:c0.size=0):
  ρ h.length=.unborn∧Mem X w0 M (h++[.live c0]) (upd ρ h.length .nil) w:=by
 have hun:ρ h.length=.unborn:=by
  have hs:=m.slot h.length
  rw[Heap.get_ge (Nat.le_refl _)]at hs
  cases hx:ρ h.length<;>rw[hx]at hs<;>first|rfl|exact hs.elim
 have mo:=fY w hun
 refine⟨hun,⟨fun id=> ?_,fun i j b hi hj=> ?_,fun id b hb=> ?_,m.os,m.tape,m.output,m.size,m.keep,m.foreign⟩⟩
 ·by_cases e:id=h.length
  ·subst e
   have:Heap.get (h++[.live c0]) h.length=.live c0:=by
    unfold Heap.get
    rw[List.getD_eq_getElem?_getD,List.getElem?_append_right (by omega)];simp
   rw[this,bC];exact hc
  ·have hg:Heap.get (h++[.live c0]) id=Heap.get h id:=by
    unfold Heap.get
    rw[List.getD_eq_getElem?_getD,List.getD_eq_getElem?_getD,List.getElem?_append]
    split
    ·rfl
    ·rw[List.getElem?_eq_none (l:=h) (by omega),List.getElem?_eq_none (by simp;omega)]
   rw[hg,bK _ _ e]
   exact(m.slot id).mono mo fun _ _=>rfl
 ·by_cases e:i=h.length
  ·subst e;rw[bC]at hi;cases hi
  ·by_cases e':j=h.length
   ·subst e';rw[bC]at hj;cases hj
   ·rw[bK _ _ e]at hi;rw[bK _ _ e']at hj
    exact m.inj i j b hi hj
 ·by_cases e:id=h.length
  ·subst e;rw[bC]at hb;cases hb
  ·rw[bK _ _ e]at hb;exact m.own id b hb
theorem bE.nils {P:Program} {f:FuncId} {args:List AV} {h h':List b9} {es:Nat} {c0:Con} (hm:bE P f args h (.c .nils) h') (hc:c0.size=0):
  bE P f args h (.c (.sl h'.length 0 0 es none)) (h'++[.live c0]):=by
 refine⟨hm.1,fun {X w0 ρ0} m vs hl hv=> ?_⟩
 refine Calls.mono (hm.2 m vs hl hv) ?_
 rintro e w' ⟨v,ρ',rfl,mb,im,m',hr⟩
 obtain⟨hun,m2⟩:=m'.addNil hc
 have mo:=fY w' hun
 refine⟨v,_,rfl,mb.trans mo.toB,im.trans mo.ids,m2, ?_⟩
 cases hr with
 |c x v hx=>exact .c _ _ (iX hx)
end
section
noncomputable def T22:List bF:=[⟨135,[],nm B8⟩]++T21
theorem e22:a8 Tryz.prog T22:=by
 refine a8.append ?_ e21
 intro e he
 simp only[List.mem_cons,List.not_mem_nil,or_false]at he
 subst he;exact a6M.ok
theorem t22:bN Tryz.prog (aB T22):=aP e22
theorem UC (k:Int) (w v:List Int):aG tt (aB T22) ([]) 100 Tryz.f111 [.c (.int .i64 k),.c (.view none (.ints .i64 w) w.length 1 none),.c (.view none (.ints .i64 v) v.length 1 none)] [] [(0,true)]=
  some ⟨.tup [.c .nils,.c (.bool false)],[],(decide (v.length≤8)&&(bet k 1 2&&(aM v&&(!bO k v&&(!bO k v&&(!bO k v&&(!bO k v&&(!bO k v&&((!bO k v)&&true))))))))),[]⟩:=by kernel_rfl
theorem UD (k:Int) (w v:List Int):aG tt (aB T22) ([]) 100 Tryz.f111 [.c (.int .i64 k),.c (.view none (.ints .i64 w) w.length 1 none),.c (.view none (.ints .i64 v) v.length 1 none)] [] [(0,false),(0,true)]=
  some ⟨.tup [.c .nils,.c (.bool false)],[],(decide (v.length≤8)&&(bet k 1 2&&(aM v&&(!!bO k v&&(!!bO k v&&(!!bO k v&&(!!bO k v&&(decide (v.length≤8)&&(bet k 1 2&&(aM v&&(decide (w.length=8)&&(a9 w&&(dU k w v&&(!!bO k v&&((bif !bO k v then true else !cJ k w v)&&true))))))))))))))),[]⟩:=by kernel_rfl
theorem UE (k:Int) (w v:List Int):aG tt (aB T22) ([]) 100 Tryz.f111 [.c (.int .i64 k),.c (.view none (.ints .i64 w) w.length 1 none),.c (.view none (.ints .i64 v) v.length 1 none)] [] [(0,false),(0,false)]=
  some ⟨.tup [.c (.sl 0 0 4 1 none),.c (.bool true)],[.live (.ints .i64 [(dS k w v).getD 0 0,(dS k w v).getD 1 0,(dS k w v).getD 2 0,(dS k w v).getD 3 0])],(decide (v.length≤8)&&(bet k 1 2&&(aM v&&(!!bO k v&&(!!bO k v&&(!!bO k v&&(!!bO k v&&(decide (v.length≤8)&&(bet k 1 2&&(aM v&&(decide (w.length=8)&&(a9 w&&(dU k w v&&(!!bO k v&&((!bif !bO k v then true else !cJ k w v)&&(decide (v.length≤8)&&(bet k 1 2&&(aM v&&(decide (w.length=8)&&(a9 w&&((dU k w v)&&true))))))))))))))))))))),[]⟩:=by kernel_rfl
def DD:aQ:=fun args h=>
 match args,h with
 |[.c (.int .i64 k),.c (.view _ (.ints .i64 w) n 1 _),.c (.view _ (.ints .i64 v) n2 1 _)],[]=>
  some (.tup [.c (.sl 0 0 4 1 none),.c (.bool true)],[.live (.ints .i64 [(dS k w v).getD 0 0,(dS k w v).getD 1 0,(dS k w v).getD 2 0,(dS k w v).getD 3 0])],[decide (v.length≤8),bet k 1 2,aM v,decide (w.length=8),a9 w,dU k w v,bO k v,cJ k w v])
 |_,_=>none
theorem a6D:aV Tryz.prog 111 DD:=by
 intro args h res h' o hnorm he ho
 unfold DD at he
 split at he
 case h_2=>cases he
 rename_i k nl w n cap nl2 v n2 cap2
 simp only[Option.some.injEq,Prod.mk.injEq]at he
 obtain⟨rfl,rfl,rfl⟩:=he
 simp only[List.mem_cons,List.not_mem_nil,or_false,forall_eq_or_imp,forall_eq,decide_eq_true_eq]at ho
 obtain⟨o1,o2,o3,o4,o5,o6,o7,o8⟩:=ho
 simp only[bG,AV.norm,bI,aJ.norm,Con.size,List.cons.injEq,AV.c.injEq,AV.agg.injEq,aJ.view.injEq,aN,true_and,and_true]at hnorm
 obtain⟨⟨rfl,rfl,rfl⟩,rfl,rfl,rfl⟩:=hnorm
 exact a5 t22 (by kernel_rfl) (by kernel_rfl) (UE k w v) (by simp[o1,o2,o3,o4,o5,o6,o7,o8]) (by simp) (fun c _=>aF.nil)
def DC:aQ:=fun args h=>
 match args,h with
 |[.c (.int .i64 k),.c (.view _ (.ints .i64 w) n 1 _),.c (.view _ (.ints .i64 v) n2 1 _)],[]=>
  some (.tup [.c .nils,.c (.bool false)],[],[decide (v.length≤8),bet k 1 2,aM v,decide (w.length=8),a9 w,dU k w v, !(bO k v&&cJ k w v)])
 |_,_=>none
theorem XT:aV Tryz.prog 111 DC:=by
 intro args h res h' o hnorm he ho
 unfold DC at he
 split at he
 case h_2=>cases he
 rename_i k nl w n cap nl2 v n2 cap2
 simp only[Option.some.injEq,Prod.mk.injEq]at he
 obtain⟨rfl,rfl,rfl⟩:=he
 simp only[List.mem_cons,List.not_mem_nil,or_false,forall_eq_or_imp,forall_eq,decide_eq_true_eq]at ho
 obtain⟨o1,o2,o3,o4,o5,o6,o7⟩:=ho
 simp only[bG,AV.norm,bI,aJ.norm,Con.size,List.cons.injEq,AV.c.injEq,AV.agg.injEq,aJ.view.injEq,aN,true_and,and_true]at hnorm
 obtain⟨⟨rfl,rfl,rfl⟩,rfl,rfl,rfl⟩:=hnorm
 cases hb:bO k v with
 |false=>exact a5 t22 (by kernel_rfl) (by kernel_rfl) (UC k w v) (by simp[o1,o2,o3,hb]) (by simp) (fun c _=>aF.nil)
 |true=>
  have hf:cJ k w v=false:=by rw[hb]at o7;simpa using o7
  exact a5 t22 (by kernel_rfl) (by kernel_rfl) (UD k w v) (by simp[o1,o2,o3,o4,o5,o6,hb,hf]) (by simp) (fun c _=>aF.nil)
theorem VY (v:List Int):aG tt (aB T22) ([]) 100 Tryz.f71 [.c (.view (some false) (.ints .i64 v) v.length 1 none)] [] []=
  some ⟨.c (.sl 0 0 (0+v.length) 1 none),[.live (.ints .i64 ([]++v))],((decide (0+v.length≤274877906944))&&true),[]⟩:=by kernel_rfl
theorem VZ (v:List Int):aG tt (aB T22) ([]) 100 Tryz.f71 [.c (.view (some true) (.ints .i64 v) v.length 1 none)] [] []=
  some ⟨.c .nils,[],true,[]⟩:=by kernel_rfl
def oQ:aQ:=fun args h=>
 match args,h with
 |[.c (.view _ (.ints .i64 v) n 1 _)],[]=>
  some (.c (.sl 0 0 v.length 1 none),[.live (.ints .i64 v)],[decide (v.length≤274877906944)])
 |_,_=>none
theorem m64:aV Tryz.prog 71 oQ:=by
 intro args h res h' o hnorm he ho
 unfold oQ at he
 split at he
 case h_2=>cases he
 rename_i nl v n cap
 simp only[Option.some.injEq,Prod.mk.injEq]at he
 obtain⟨rfl,rfl,rfl⟩:=he
 simp only[List.mem_cons,List.not_mem_nil,or_false,forall_eq_or_imp,forall_eq,decide_eq_true_eq]at ho
 have o1:=ho
 simp only[bG,AV.norm,bI,aJ.norm,Con.size,List.cons.injEq,AV.c.injEq,AV.agg.injEq,aJ.view.injEq,aN,true_and,and_true]at hnorm
 obtain⟨rfl,rfl,rfl⟩:=hnorm
 refine bE.nilCases ?_ fun hz=> ?_
 ·have e:=VY v
  simp only[Nat.zero_add]at e
  exact a5 t22 (by kernel_rfl) (by kernel_rfl) e (by simp[o1]) (by simp) (fun c _=>aF.nil)
 ·have hv:v=[]:=List.eq_nil_of_length_eq_zero hz
  subst hv
  exact bE.nils (c0:=.ints .i64 []) (a5 t22 (by kernel_rfl) (by kernel_rfl) (VZ []) (by simp) (by simp) (fun c _=>aF.nil)) rfl
theorem OC (v:List Bool):aG tt (aB T22) ([]) 100 Tryz.f150 [.c (.view (some false) (.bools v) v.length 1 none)] [] []=
  some ⟨.c (.sl 0 0 (0+v.length) 1 none),[.live (.bools ([]++v))],((decide (0+v.length≤274877906944))&&true),[]⟩:=by kernel_rfl
theorem OD (v:List Bool):aG tt (aB T22) ([]) 100 Tryz.f150 [.c (.view (some true) (.bools v) v.length 1 none)] [] []=
  some ⟨.c .nils,[],true,[]⟩:=by kernel_rfl
def m8:aQ:=fun args h=>
 match args,h with
 |[.c (.view _ (.bools v) n 1 _)],[]=>
  some (.c (.sl 0 0 v.length 1 none),[.live (.bools v)],[decide (v.length≤274877906944)])
 |_,_=>none
theorem a6Q:aV Tryz.prog 150 m8:=by
 intro args h res h' o hnorm he ho
 unfold m8 at he
 split at he
 case h_2=>cases he
 rename_i nl v n cap
 simp only[Option.some.injEq,Prod.mk.injEq]at he
 obtain⟨rfl,rfl,rfl⟩:=he
 simp only[List.mem_cons,List.not_mem_nil,or_false,forall_eq_or_imp,forall_eq,decide_eq_true_eq]at ho
 have o1:=ho
 simp only[bG,AV.norm,bI,aJ.norm,Con.size,List.cons.injEq,AV.c.injEq,AV.agg.injEq,aJ.view.injEq,aN,true_and,and_true]at hnorm
 obtain⟨rfl,rfl,rfl⟩:=hnorm
 refine bE.nilCases ?_ fun hz=> ?_
 ·have e:=OC v
  simp only[Nat.zero_add]at e
  exact a5 t22 (by kernel_rfl) (by kernel_rfl) e (by simp[o1]) (by simp) (fun c _=>aF.nil)
 ·have hv:v=[]:=List.eq_nil_of_length_eq_zero hz
  subst hv
  exact bE.nils (c0:=.bools []) (a5 t22 (by kernel_rfl) (by kernel_rfl) (OD []) (by simp) (by simp) (fun c _=>aF.nil)) rfl
theorem WP:aS Tryz.prog 70 (dZ tt (aB T22) Tryz.f70 []):=d6 hT t22 bM [] (by kernel_rfl) (by kernel_rfl)
theorem WO:aS Tryz.prog 149 (dZ tt (aB T22) Tryz.f149 []):=d6 hT t22 bM [] (by kernel_rfl) (by kernel_rfl)
noncomputable def T23:List bF:=[⟨71,[],nm oQ⟩,⟨150,[],nm m8⟩,⟨70,[0],dZ tt (aB T22) Tryz.f70 []⟩,⟨149,[0],dZ tt (aB T22) Tryz.f149 []⟩]++T22
theorem e23:a8 Tryz.prog T23:=by
 refine a8.append ?_ e22
 intro e he
 simp only[List.mem_cons,List.not_mem_nil,or_false]at he
 rcases he with rfl|rfl|rfl|rfl
 ·exact m64.ok
 ·exact a6Q.ok
 ·exact WP
 ·exact WO
theorem t23:bN Tryz.prog (aB T23):=aP e23
theorem a34 (k:Int) (a b:List Int) (c:List Bool):aG tt (aB T22) ([]) 100 Tryz.f81 [.agg [.int .i64 k,.view none (.ints .i64 a) a.length 1 none,.view none (.ints .i64 b) b.length 1 none,.view none (.bools c) c.length 1 none]] [] [(0,true),(0,true)]=
  some ⟨.c (.bool (bif bif (↑a.length:Int)==8 then(↑b.length:Int)==8 else false then(↑c.length:Int)==8 else false)),[],(((↑a.length:Int)==8)&&(((↑a.length:Int)==8)&&(((↑a.length:Int)==8)&&(((↑a.length:Int)==8)&&((bif (↑a.length:Int)==8 then(↑b.length:Int)==8 else false)&&((bif (↑a.length:Int)==8 then(↑b.length:Int)==8 else false)&&((bif (↑a.length:Int)==8 then(↑b.length:Int)==8 else false)&&((bif (↑a.length:Int)==8 then(↑b.length:Int)==8 else false)&&true)))))))),[]⟩:=by kernel_rfl
theorem a35 (k:Int) (a b:List Int) (c:List Bool):aG tt (aB T22) ([]) 100 Tryz.f81 [.agg [.int .i64 k,.view none (.ints .i64 a) a.length 1 none,.view none (.ints .i64 b) b.length 1 none,.view none (.bools c) c.length 1 none]] [] [(0,true),(0,false)]=
  some ⟨.c (.bool false),[],(((↑a.length:Int)==8)&&(((↑a.length:Int)==8)&&(((↑a.length:Int)==8)&&(((↑a.length:Int)==8)&&((!bif (↑a.length:Int)==8 then(↑b.length:Int)==8 else false)&&((!bif (↑a.length:Int)==8 then(↑b.length:Int)==8 else false)&&((!bif (↑a.length:Int)==8 then(↑b.length:Int)==8 else false)&&((!bif (↑a.length:Int)==8 then(↑b.length:Int)==8 else false)&&((!bif (↑a.length:Int)==8 then(↑b.length:Int)==8 else false)&&true))))))))),[]⟩:=by kernel_rfl
theorem a36 (k:Int) (a b:List Int) (c:List Bool):aG tt (aB T22) ([]) 100 Tryz.f81 [.agg [.int .i64 k,.view none (.ints .i64 a) a.length 1 none,.view none (.ints .i64 b) b.length 1 none,.view none (.bools c) c.length 1 none]] [] [(0,false)]=
  some ⟨.c (.bool false),[],((!(↑a.length:Int)==8)&&((!(↑a.length:Int)==8)&&((!(↑a.length:Int)==8)&&((!(↑a.length:Int)==8)&&((!(↑a.length:Int)==8)&&true))))),[]⟩:=by kernel_rfl
def d8 (a b:List Int) (c:List Bool):Bool:=((a.length:Int)==8)&&((b.length:Int)==8)&&((c.length:Int)==8)
def s7:aQ:=fun args h=>
 match args,h with
 |[.agg [.int .i64 k,.view _ (.ints .i64 a) n1 1 _,.view _ (.ints .i64 b) n2 1 _,.view _ (.bools c) n3 1 _]],[]=>
  some (.c (.bool (d8 a b c)),[],[])
 |_,_=>none
theorem m70:aV Tryz.prog 81 s7:=by
 intro args h res h' o hnorm he ho
 unfold s7 at he
 split at he
 case h_2=>cases he
 rename_i k nl1 a n1 cap1 nl2 b n2 cap2 nl3 c n3 cap3
 simp only[Option.some.injEq,Prod.mk.injEq]at he
 obtain⟨rfl,rfl,rfl⟩:=he
 simp only[bG,AV.norm,bI,aJ.norm,Con.size,List.cons.injEq,AV.c.injEq,AV.agg.injEq,aJ.view.injEq,aN,true_and,and_true]at hnorm
 obtain⟨⟨rfl,rfl,rfl⟩,⟨rfl,rfl,rfl⟩,rfl,rfl,rfl⟩:=hnorm
 unfold d8
 cases ha:(a.length:Int)==8 with
 |false=>exact a5 t22 (by kernel_rfl) (by kernel_rfl) (a36 k a b c) (by simp[ha,-beq_eq_false_iff_ne]) (by simp) (fun c _=>aF.nil)
 |true=>
  cases hb:(b.length:Int)==8 with
  |false=>exact a5 t22 (by kernel_rfl) (by kernel_rfl) (a35 k a b c) (by simp only[ha,hb];rfl) (by simp) (fun c _=>aF.nil)
  |true=>
   have e:=a5 (f:=81) t22 (by kernel_rfl) (by kernel_rfl) (a34 k a b c) (by simp only[ha,hb];rfl) (by simp) (fun c _=>aF.nil)
   simp only[ha,hb,cond_true]at e
   exact e
theorem a40 (k:Int) (a b:List Int) (c:List Bool):aG tt (aB T23) ([]) 100 Tryz.f110 [.agg [.int .i64 k,.view none (.ints .i64 a) a.length 1 none,.view none (.ints .i64 b) b.length 1 none,.view none (.bools c) c.length 1 none]] [] []=
  some ⟨.agg [.int .i64 k,.sl 0 0 (↑a.length:Int).toNat 1 none,.sl 1 0 (↑b.length:Int).toNat 1 none,.sl 2 0 (↑c.length:Int).toNat 1 none],[.live (.ints .i64 a),.live (.ints .i64 b),.live (.bools c)],(decide (a.length≤274877906944)&&((decide ((↑a.length:Int)≤(↑a.length:Int))&&(decide ((↑a.length:Int)≤(↑a.length:Int))&&true))&&(decide (b.length≤274877906944)&&((decide ((↑b.length:Int)≤(↑b.length:Int))&&(decide ((↑b.length:Int)≤(↑b.length:Int))&&true))&&(decide (c.length≤274877906944)&&((decide ((↑c.length:Int)≤(↑c.length:Int))&&(decide ((↑c.length:Int)≤(↑c.length:Int))&&true))&&true)))))),[]⟩:=by kernel_rfl
def rX:aQ:=fun args h=>
 match args,h with
 |[.agg [.int .i64 k,.view _ (.ints .i64 a) n1 1 _,.view _ (.ints .i64 b) n2 1 _,.view _ (.bools c) n3 1 _]],[]=>
  some (.agg [.int .i64 k,.sl 0 0 a.length 1 none,.sl 1 0 b.length 1 none,.sl 2 0 c.length 1 none],[.live (.ints .i64 a),.live (.ints .i64 b),.live (.bools c)],[decide (a.length≤274877906944),decide (b.length≤274877906944),decide (c.length≤274877906944)])
 |_,_=>none
theorem m99:aV Tryz.prog 110 rX:=by
 intro args h res h' o hnorm he ho
 unfold rX at he
 split at he
 case h_2=>cases he
 rename_i k nl1 a n1 cap1 nl2 b n2 cap2 nl3 c n3 cap3
 simp only[Option.some.injEq,Prod.mk.injEq]at he
 obtain⟨rfl,rfl,rfl⟩:=he
 simp only[List.mem_cons,List.not_mem_nil,or_false,forall_eq_or_imp,forall_eq,decide_eq_true_eq]at ho
 obtain⟨o1,o2,o3⟩:=ho
 simp only[bG,AV.norm,bI,aJ.norm,Con.size,List.cons.injEq,AV.c.injEq,AV.agg.injEq,aJ.view.injEq,aN,true_and,and_true]at hnorm
 obtain⟨⟨rfl,rfl,rfl⟩,⟨rfl,rfl,rfl⟩,rfl,rfl,rfl⟩:=hnorm
 exact a5 t23 (by kernel_rfl) (by kernel_rfl) (a40 k a b c) (by simp[o1,o2,o3]) (by simp) (fun c _=>aF.nil)
end
section
noncomputable def T24:List bF:=[⟨81,[],nm s7⟩,⟨110,[],nm rX⟩]++T23
theorem e24:a8 Tryz.prog T24:=by
 refine a8.append ?_ e23
 intro e he
 simp only[List.mem_cons,List.not_mem_nil,or_false]at he
 rcases he with rfl|rfl
 ·exact m70.ok
 ·exact m99.ok
theorem t24:bN Tryz.prog (aB T24):=aP e24
theorem a2R (k:Int) (a b:List Int) (c:List Bool) (on:Bool) (kd:Int) (d:List Int) (vs:Int):aG tt (aB T24) ([]) 100 Tryz.f49 [.agg [.int .i64 k,.view none (.ints .i64 a) a.length 1 none,.view none (.ints .i64 b) b.length 1 none,.view none (.bools c) c.length 1 none,.bool on,.int .i64 kd,.view none (.ints .i64 d) d.length 1 none,.int .i64 vs]] [] []=
  some ⟨.agg [.int .i64 k,.sl 0 0 a.length 1 none,.sl 1 0 b.length 1 none,.sl 2 0 c.length 1 none,.bool on,.int .i64 kd,.sl 3 0 (↑d.length:Int).toNat 1 none,.int .i64 vs],[.live (.ints .i64 a),.live (.ints .i64 b),.live (.bools c),.live (.ints .i64 d)],(decide (a.length≤274877906944)&&(decide (b.length≤274877906944)&&(decide (c.length≤274877906944)&&(decide (d.length≤274877906944)&&((decide ((↑d.length:Int)≤(↑d.length:Int))&&(decide ((↑d.length:Int)≤(↑d.length:Int))&&true))&&true))))),[]⟩:=by kernel_rfl
theorem a85:aS Tryz.prog 104 (dZ tt (aB T24) Tryz.f104 []):=d6 hT t24 bM [] (by kernel_rfl) (by kernel_rfl)
theorem WS:aS Tryz.prog 50 (dZ tt (aB T24) Tryz.f50 []):=d6 hT t24 bM [] (by kernel_rfl) (by kernel_rfl)
noncomputable def T25:List bF:=[⟨104,[0],dZ tt (aB T24) Tryz.f104 []⟩,⟨50,[0],dZ tt (aB T24) Tryz.f50 []⟩]++T24
theorem e25:a8 Tryz.prog T25:=by
 refine a8.append ?_ e24
 intro e he
 simp only[List.mem_cons,List.not_mem_nil,or_false]at he
 rcases he with rfl|rfl
 ·exact a85
 ·exact WS
theorem t25:bN Tryz.prog (aB T25):=aP e25
def oS:aQ:=fun args h=>
 match args,h with
 |[.agg [.int .i64 k,.view _ (.ints .i64 a) n1 1 _,.view _ (.ints .i64 b) n2 1 _,.view _ (.bools c) n3 1 _,.bool on,.int .i64 kd,.view _ (.ints .i64 d) n4 1 _,.int .i64 vs]],[]=>
  some (.agg [.int .i64 k,.sl 0 0 a.length 1 none,.sl 1 0 b.length 1 none,.sl 2 0 c.length 1 none,.bool on,.int .i64 kd,.sl 3 0 d.length 1 none,.int .i64 vs],[.live (.ints .i64 a),.live (.ints .i64 b),.live (.bools c),.live (.ints .i64 d)],[decide (a.length≤274877906944),decide (b.length≤274877906944),decide (c.length≤274877906944),decide (d.length≤274877906944)])
 |_,_=>none
theorem m48:aV Tryz.prog 49 oS:=by
 intro args h res h' o hnorm he ho
 unfold oS at he
 split at he
 case h_2=>cases he
 rename_i k nl1 a n1 cap1 nl2 b n2 cap2 nl3 c n3 cap3 on kd nl4 d n4 cap4 vs
 simp only[Option.some.injEq,Prod.mk.injEq]at he
 obtain⟨rfl,rfl,rfl⟩:=he
 simp only[List.mem_cons,List.not_mem_nil,or_false,forall_eq_or_imp,forall_eq,decide_eq_true_eq]at ho
 obtain⟨o1,o2,o3,o4⟩:=ho
 simp only[bG,AV.norm,bI,aJ.norm,Con.size,List.cons.injEq,AV.c.injEq,AV.agg.injEq,aJ.view.injEq,aN,true_and,and_true]at hnorm
 obtain⟨⟨rfl,rfl,rfl⟩,⟨rfl,rfl,rfl⟩,⟨rfl,rfl,rfl⟩,rfl,rfl,rfl⟩:=hnorm
 exact a5 t24 (by kernel_rfl) (by kernel_rfl) (a2R k a b c on kd d vs) (by simp[o1,o2,o3,o4]) (by simp) (fun c _=>aF.nil)
theorem U2:aS Tryz.prog 72 (dZ tt (aB T25) Tryz.f72 []):=d6 hT t25 bM [] (by kernel_rfl) (by kernel_rfl)
theorem QV:aS Tryz.prog 73 (dZ tt (aB T25) Tryz.f73 []):=d6 hT t25 bM [] (by kernel_rfl) (by kernel_rfl)
def qR (vs:Int) (i:Nat) (s:List Int×List Int×List Bool):List Int×List Int×List Bool:=
 bif s.2.1.getD i 0==vs then(s.1.set i 0,s.2.1.set i 0,s.2.2.set i false)else s
def aI (a b:List Int) (c:List Bool) (vs:Int):List Int×List Int×List Bool:=bP (qR vs) b.length 0 (a,b,c)
noncomputable abbrev f71:=Tryz.f82
noncomputable def I71 (k:Int) (a b a' b':List Int) (c c':List Bool) (on:Bool) (kd:Int) (d:List Int) (vs:Int) (i:Int):St:=
 bA f71.ntmps [(1,.c (.ptr 0 0 0 0)),(2,.c (.ptr 1 0 0 0)),(3,.c (.ptr 2 0 0 0)),(10,.c (.sl 3 0 b.length 1 none)),(11,.c (.int .i64 b.length)),(12,.c (.int .i64 i))]
  [.live (.cells [.int .i64 k,.view none (.ints .i64 a) a.length 1 none,.view none (.ints .i64 b) b.length 1 none,.view none (.bools c) c.length 1 none,.bool on,.int .i64 kd,.view none (.ints .i64 d) d.length 1 none,.int .i64 vs]),.live (.cells [.int .i64 0,.nils,.nils,.nils]),.live (.cells [.int .i64 k,.sl 4 0 a.length 1 none,.sl 3 0 b.length 1 none,.sl 5 0 c.length 1 none]),.live (.ints .i64 b'),.live (.ints .i64 a'),.live (.bools c')]
noncomputable def X71 (k:Int) (na nb nc:Nat) (a' b':List Int) (c':List Bool):St:=
 bA f71.ntmps [(2,.c (.ptr 0 0 0 0)),(3,.c (.ptr 1 0 0 0))]
  [.live (.cells [.int .i64 0,.nils,.nils,.nils]),.live (.cells [.int .i64 k,.sl 2 0 na 1 none,.sl 3 0 nb 1 none,.sl 4 0 nc 1 none]),.live (.ints .i64 a'),.live (.ints .i64 b'),.live (.bools c')]
theorem ZV (k:Int) (a b a' b':List Int) (c c':List Bool) (on:Bool) (kd:Int) (d:List Int) (vs:Int) (i:Int):aH 0 (aA f71 0) (aD f71 0) (aK tt (aB T25) ([]) 0 100 (a6 0 (a7 f71)) (I71 k a b a' b' c c' on kd d vs i) [(0,true),(0,true)])=
  some (.normal,(decide (i<(↑b.length:Int))&&(decide (0≤i)&&(decide (i<(↑b.length:Int))&&(decide (i.toNat<b'.length)&&((b'.getD i.toNat 0==vs)&&((decide (0≤i)&&(decide (i<(↑a.length:Int))&&(decide (i.toNat<a'.length)&&(decide (0≤i)&&(decide (i<(↑b.length:Int))&&(decide (i.toNat<b'.length)&&(decide (0≤i)&&(decide (i<(↑c.length:Int))&&(decide (i.toNat<c'.length)&&true)))))))))&&true)))))),[],I71 k a b (a'.set i.toNat 0) (b'.set i.toNat 0) c (c'.set i.toNat false) on kd d vs (IntKind.i64.wrap (i+1))):=by kernel_rfl
theorem ZW (k:Int) (a b a' b':List Int) (c c':List Bool) (on:Bool) (kd:Int) (d:List Int) (vs:Int) (i:Int):aH 0 (aA f71 0) (aD f71 0) (aK tt (aB T25) ([]) 0 100 (a6 0 (a7 f71)) (I71 k a b a' b' c c' on kd d vs i) [(0,true),(0,false)])=
  some (.normal,(decide (i<(↑b.length:Int))&&(decide (0≤i)&&(decide (i<(↑b.length:Int))&&(decide (i.toNat<b'.length)&&((!b'.getD i.toNat 0==vs)&&true))))),[],I71 k a b (a') (b') c (c') on kd d vs (IntKind.i64.wrap (i+1))):=by kernel_rfl
theorem ZX (k:Int) (a b a' b':List Int) (c c':List Bool) (on:Bool) (kd:Int) (d:List Int) (vs:Int) (i:Int):aH 0 (aA f71 0) (aD f71 0) (aK tt (aB T25) ([]) 0 100 (a6 0 (a7 f71)) (I71 k a b a' b' c c' on kd d vs i) [(0,false)])=
  some (.exit 0,((!decide (i<(↑b.length:Int)))&&true),[],X71 k a.length b.length c.length (a') (b') (c')):=by kernel_rfl
theorem l71 (k:Int) (a b:List Int) (c:List Bool) (on:Bool) (kd:Int) (d:List Int) (vs:Int) (hb:b.length≤274877906944) (ha:a.length=b.length) (hc:c.length=b.length):
  aW Tryz.prog 0 (.block 0 (.loop (a6 0 (a7 f71)))) (I71 k a b a b c c on kd d vs 0) fun e t=>e=.normal∧t=X71 k a.length b.length c.length (aI a b c vs).1 (aI a b c vs).2.1 (aI a b c vs).2.2:=by
 refine aW.count hT t25 bM b.length (fun _ s=>s.1.length=b.length∧s.2.1.length=b.length∧s.2.2.length=b.length) (fun i s=>I71 k a b s.1 s.2.1 c s.2.2 on kd d vs i)
  (fun s=>X71 k a.length b.length c.length s.1 s.2.1 s.2.2) (qR vs) (aA f71 0) (aD f71 0)
  (fun _ _=>[]) (fun _ _ _ _=>aF.nil) (fun i s hi h=> ?_) (fun s _=>⟨_,_,⟨_,_,ZX k a b s.1 s.2.1 c s.2.2 on kd d vs b.length,by simp,by simp⟩⟩) (a,b,c) ⟨ha,rfl,hc⟩
 obtain⟨a',b',c'⟩:=s
 obtain⟨h1,h2,h3⟩:=h
 dsimp only at h1 h2 h3
 unfold qR
 cases hz:b'.getD i 0==vs with
 |true=>
  refine⟨by simp[h1,h2,h3], ?_⟩
  have e:=ZV k a b a' b' c c' on kd d vs i
  rw[aE (i:=(i:Int)+1) (by omega) (by omega),Int.toNat_natCast]at e
  refine⟨_,_,⟨_,_,e, ?_,by simp⟩⟩
  simp only[hz,Bool.true_and,Bool.and_true,Bool.and_eq_true,decide_eq_true_eq]
  omega
 |false=>
  refine⟨⟨h1,h2,h3⟩, ?_⟩
  have e:=ZW k a b a' b' c c' on kd d vs i
  rw[aE (by omega) (by omega),Int.toNat_natCast]at e
  refine⟨_,_,⟨_,_,e, ?_,by simp⟩⟩
  simp only[hz,Bool.not_false,Bool.true_and,Bool.and_true,Bool.and_eq_true,decide_eq_true_eq]
  omega
theorem a37 (k:Int) (a b:List Int) (c:List Bool) (on:Bool) (kd:Int) (d:List Int) (vs:Int):aG tt (aB T25) ([(0,⟨aA f71 0,I71 k a b a b c c on kd d vs 0,.normal,X71 k a.length b.length c.length (aI a b c vs).1 (aI a b c vs).2.1 (aI a b c vs).2.2⟩)]) 100 f71 [.agg [.int .i64 k,.view none (.ints .i64 a) a.length 1 none,.view none (.ints .i64 b) b.length 1 none,.view none (.bools c) c.length 1 none,.bool on,.int .i64 kd,.view none (.ints .i64 d) d.length 1 none,.int .i64 vs]] [] []=
  some ⟨.agg [.int .i64 k,.sl 0 0 a.length 1 none,.sl 1 0 b.length 1 none,.sl 2 0 c.length 1 none],[.live (.ints .i64 (aI a b c vs).fst),.live (.ints .i64 (aI a b c vs).2.1),.live (.bools (aI a b c vs).2.2)],(decide (a.length≤274877906944)&&(decide (b.length≤274877906944)&&((decide (c.length≤274877906944))&&true))),[I71 k a b a b c c on kd d vs 0=I71 k a b a b c c on kd d vs 0]⟩:=by kernel_rfl
def BR:aQ:=fun args h=>
 match args,h with
 |[.agg [.int .i64 k,.view _ (.ints .i64 a) n1 1 _,.view _ (.ints .i64 b) n2 1 _,.view _ (.bools c) n3 1 _,.bool on,.int .i64 kd,.view _ (.ints .i64 d) n4 1 _,.int .i64 vs]],[]=>
  some (.agg [.int .i64 k,.sl 0 0 a.length 1 none,.sl 1 0 b.length 1 none,.sl 2 0 c.length 1 none],[.live (.ints .i64 (aI a b c vs).1),.live (.ints .i64 (aI a b c vs).2.1),.live (.bools (aI a b c vs).2.2)],[decide (b.length≤274877906944),decide (a.length=b.length),decide (c.length=b.length)])
 |_,_=>none
theorem m71:aV Tryz.prog 82 BR:=by
 intro args h res h' o hnorm he ho
 unfold BR at he
 split at he
 case h_2=>cases he
 rename_i k nl1 a n1 cap1 nl2 b n2 cap2 nl3 c n3 cap3 on kd nl4 d n4 cap4 vs
 simp only[Option.some.injEq,Prod.mk.injEq]at he
 obtain⟨rfl,rfl,rfl⟩:=he
 simp only[List.mem_cons,List.not_mem_nil,or_false,forall_eq_or_imp,forall_eq,decide_eq_true_eq]at ho
 obtain⟨o1,o2,o3⟩:=ho
 simp only[bG,AV.norm,bI,aJ.norm,Con.size,List.cons.injEq,AV.c.injEq,AV.agg.injEq,aJ.view.injEq,aN,true_and,and_true]at hnorm
 obtain⟨⟨rfl,rfl,rfl⟩,⟨rfl,rfl,rfl⟩,⟨rfl,rfl,rfl⟩,rfl,rfl,rfl⟩:=hnorm
 exact a5 t25 (by kernel_rfl) (by kernel_rfl) (a37 k a b c on kd d vs) (by simp[o1,o2,o3]) (by simp) (fun cc hc=>aF.cons (c:=cc) (by cases hc;kernel_rfl) (by cases hc;exact l71 k a b c on kd d vs o1 o2 o3) aF.nil)
end
section
noncomputable def T26:List bF:=[⟨49,[],nm oS⟩,⟨72,[0],dZ tt (aB T25) Tryz.f72 []⟩,⟨73,[0],dZ tt (aB T25) Tryz.f73 []⟩,⟨82,[],nm BR⟩]++T25
theorem e26:a8 Tryz.prog T26:=by
 refine a8.append ?_ e25
 intro e he
 simp only[List.mem_cons,List.not_mem_nil,or_false]at he
 rcases he with rfl|rfl|rfl|rfl
 ·exact m48.ok
 ·exact U2
 ·exact QV
 ·exact m71.ok
theorem t26:bN Tryz.prog (aB T26):=aP e26
theorem a82:aS Tryz.prog 155 (dZ tt (aB T26) Tryz.f155 []):=d6 hT t26 bM [] (by kernel_rfl) (by kernel_rfl)
noncomputable def T27:List bF:=[⟨155,[1,2],dZ tt (aB T26) Tryz.f155 []⟩]++T26
theorem e27:a8 Tryz.prog T27:=by
 refine a8.append ?_ e26
 intro e he
 simp only[List.mem_cons,List.not_mem_nil,or_false]at he
 subst he;exact a82
theorem t27:bN Tryz.prog (aB T27):=aP e27
noncomputable abbrev f0:=Tryz.f176
noncomputable def jQ (k:Int) (n1 n2 n3:Nat) (nl1 nl2 nl3:Option Bool) (cap1 cap2 cap3:Option Nat) (a b:List Int) (c:List Bool) (vs:Int) (v:List Int) (i:Int):St:=
 bA f0.ntmps [(0,.c (.sl 0 0 v.length 1 none)),(1,.c (.fn 155 [.ptr 1 0 0 0,.ptr 2 0 0 0])),(7,.c (.int .i64 v.length)),(8,.c (.int .i64 i))] [.live (.ints .i64 v),.live (.cells [.int .i64 k,.view nl1 (.ints .i64 a) n1 1 cap1,.view nl2 (.ints .i64 b) n2 1 cap2,.view nl3 (.bools c) n3 1 cap3]),.live (.ints .i64 [vs])]
noncomputable def H3 (k:Int) (n1 n2 n3:Nat) (nl1 nl2 nl3:Option Bool) (cap1 cap2 cap3:Option Nat) (a b:List Int) (c:List Bool) (vs:Int) (v:List Int):St:=bA f0.ntmps [] [.live (.ints .i64 v),.live (.cells [.int .i64 k,.view nl1 (.ints .i64 a) n1 1 cap1,.view nl2 (.ints .i64 b) n2 1 cap2,.view nl3 (.bools c) n3 1 cap3]),.live (.ints .i64 [vs])]
noncomputable def H9 (k:Int) (n1 n2 n3:Nat) (nl1 nl2 nl3:Option Bool) (cap1 cap2 cap3:Option Nat) (a b:List Int) (c:List Bool) (vs:Int) (v:List Int) (i:Int):St:=bA f0.ntmps [(4,.c (.int .i64 i))] [.live (.ints .i64 v),.live (.cells [.int .i64 k,.view nl1 (.ints .i64 a) n1 1 cap1,.view nl2 (.ints .i64 b) n2 1 cap2,.view nl3 (.bools c) n3 1 cap3]),.live (.ints .i64 [vs])]
theorem N2 (k:Int) (n1 n2 n3:Nat) (nl1 nl2 nl3:Option Bool) (cap1 cap2 cap3:Option Nat) (a b:List Int) (c:List Bool) (vs:Int) (v:List Int) (i:Int):aH 3 (aA f0 0) (aD f0 0) (aK tt (aB T27) ([]) 3 100 (a6 0 (a7 f0)) (jQ k n1 n2 n3 nl1 nl2 nl3 cap1 cap2 cap3 a b c vs v i) [(0,true),(0,true)])=
  some (.ret,(decide (i<(↑v.length:Int))&&(decide (0≤i)&&(decide (i<(↑v.length:Int))&&(decide (i.toNat<v.length)&&((decide (0≤v.getD i.toNat 0)&&(decide (v.getD i.toNat 0<(↑n2:Int))&&(decide ((v.getD i.toNat 0).toNat<b.length)&&true)))&&((b.getD (v.getD i.toNat 0).toNat 0 !=vs)&&true)))))),[],H9 k n1 n2 n3 nl1 nl2 nl3 cap1 cap2 cap3 a b c vs v (i)):=by kernel_rfl
theorem N3 (k:Int) (n1 n2 n3:Nat) (nl1 nl2 nl3:Option Bool) (cap1 cap2 cap3:Option Nat) (a b:List Int) (c:List Bool) (vs:Int) (v:List Int) (i:Int):aH 3 (aA f0 0) (aD f0 0) (aK tt (aB T27) ([]) 3 100 (a6 0 (a7 f0)) (jQ k n1 n2 n3 nl1 nl2 nl3 cap1 cap2 cap3 a b c vs v i) [(0,true),(0,false)])=
  some (.normal,(decide (i<(↑v.length:Int))&&(decide (0≤i)&&(decide (i<(↑v.length:Int))&&(decide (i.toNat<v.length)&&((decide (0≤v.getD i.toNat 0)&&(decide (v.getD i.toNat 0<(↑n2:Int))&&(decide ((v.getD i.toNat 0).toNat<b.length)&&true)))&&((!b.getD (v.getD i.toNat 0).toNat 0 !=vs)&&true)))))),[],jQ k n1 n2 n3 nl1 nl2 nl3 cap1 cap2 cap3 a b c vs v (IntKind.i64.wrap (i+1))):=by kernel_rfl
theorem N4 (k:Int) (n1 n2 n3:Nat) (nl1 nl2 nl3:Option Bool) (cap1 cap2 cap3:Option Nat) (a b:List Int) (c:List Bool) (vs:Int) (v:List Int) (i:Int):aH 3 (aA f0 0) (aD f0 0) (aK tt (aB T27) ([]) 3 100 (a6 0 (a7 f0)) (jQ k n1 n2 n3 nl1 nl2 nl3 cap1 cap2 cap3 a b c vs v i) [(0,false)])=
  some (.exit 0,((!decide (i<(↑v.length:Int)))&&true),[],H3 k n1 n2 n3 nl1 nl2 nl3 cap1 cap2 cap3 a b c vs v):=by kernel_rfl
noncomputable def P5 (k:Int) (n1 n2 n3:Nat) (nl1 nl2 nl3:Option Bool) (cap1 cap2 cap3:Option Nat) (a b:List Int) (c:List Bool) (vs:Int) (v:List Int):Option Nat→St
 |some j=>H9 k n1 n2 n3 nl1 nl2 nl3 cap1 cap2 cap3 a b c vs v j
 |none=>H3 k n1 n2 n3 nl1 nl2 nl3 cap1 cap2 cap3 a b c vs v
theorem XC (k:Int) (n1 n2 n3:Nat) (nl1 nl2 nl3:Option Bool) (cap1 cap2 cap3:Option Nat) (a b:List Int) (c:List Bool) (vs:Int) (v:List Int) (hl:v.length≤274877906944) (hok: ∀i,i<v.length→(0≤v.getD i 0∧v.getD i 0<n2)∧(v.getD i 0).toNat<b.length):
  aW Tryz.prog 3 (.block 0 (.loop (a6 0 (a7 f0)))) (jQ k n1 n2 n3 nl1 nl2 nl3 cap1 cap2 cap3 a b c vs v 0) fun e t=>e=r9 (dV (fun x=>b.getD x.toNat 0 !=vs) v)∧t=P5 k n1 n2 n3 nl1 nl2 nl3 cap1 cap2 cap3 a b c vs v (dV (fun x=>b.getD x.toNat 0 !=vs) v):=by
 refine aW.roundsR hT t27 bM (m:=3) (id:=0) (body:=a6 0 (a7 f0)) (α:=Nat)
  (fun i=>i≤v.length∧dE (fun x=>b.getD x.toNat 0 !=vs) v (v.length-i) i=dV (fun x=>b.getD x.toNat 0 !=vs) v) (fun i=>jQ k n1 n2 n3 nl1 nl2 nl3 cap1 cap2 cap3 a b c vs v i) (fun i=>v.length-i) (aA f0 0) (aD f0 0)
  (fun _=>r9 (dV (fun x=>b.getD x.toNat 0 !=vs) v)) (fun _=>P5 k n1 n2 n3 nl1 nl2 nl3 cap1 cap2 cap3 a b c vs v (dV (fun x=>b.getD x.toNat 0 !=vs) v)) (fun _=>[]) (fun _ _=>aF.nil) (fun i hx=> ?_) 0 ⟨by simp,rfl⟩
 obtain⟨h1,h3⟩:=hx
 by_cases hi:i<v.length
 ·have hk:v.length-i=(v.length-(i+1))+1:=by omega
  rw[hk]at h3
  simp only[dE]at h3
  obtain⟨⟨ho1,ho2⟩,ho3⟩:=hok i hi
  cases hz:(fun x=>b.getD x.toNat 0 !=vs) (v.getD i 0)with
  |false=>
   dsimp only at hz
   rw[hz]at h3
   have e:=N3 k n1 n2 n3 nl1 nl2 nl3 cap1 cap2 cap3 a b c vs v i
   rw[aE (by omega) (by omega),Int.toNat_natCast]at e
   refine⟨_,_,_,_,_,_,e, ?_,by simp,.inl ⟨rfl,i+1,⟨by omega,by simpa using h3⟩,by omega,rfl,rfl,rfl⟩⟩
   simp only[hz,Bool.not_false,Bool.true_and,Bool.and_true,Bool.and_eq_true,decide_eq_true_eq]
   omega
  |true=>
   dsimp only at hz
   rw[hz]at h3
   simp only[cond_true]at h3
   have e:=N2 k n1 n2 n3 nl1 nl2 nl3 cap1 cap2 cap3 a b c vs v i
   rw[Int.toNat_natCast]at e
   refine⟨_,_,_,_,_,_,e, ?_,by simp,.inr (.inr ⟨by simp,by simp, ?_, ?_⟩)⟩
   ·simp only[hz,Bool.true_and,Bool.and_true,Bool.and_eq_true,decide_eq_true_eq]
    omega
   ·rw[←h3];rfl
   ·rw[←h3];rfl
 ·have hz:v.length-i=0:=by omega
  rw[hz]at h3
  simp only[dE]at h3
  exact⟨_,_,_,_,_,_,N4 k n1 n2 n3 nl1 nl2 nl3 cap1 cap2 cap3 a b c vs v i,by simp;omega,by simp,.inr (.inl ⟨rfl,by rw[←h3];rfl,by rw[←h3];rfl⟩)⟩
def dC (v:List Int) (n:Nat):Bool:=v.all fun x=>decide (0≤x)&&decide (x<n)
theorem hJ {v:List Int} {n:Nat} (h:dC v n=true) {i:Nat} (hi:i<v.length):0≤v.getD i 0∧v.getD i 0<n:=by
 rw[List.getD_eq_getElem?_getD,List.getElem?_eq_getElem hi]
 have:=List.all_eq_true.1 h _ (List.getElem_mem hi)
 simpa using this
def wP:aQ:=fun args h=>
 match args,h with
 |[.c (.sl 0 0 n 1 none),.c (.fn 155 [.ptr 1 0 0 0,.ptr 2 0 0 0])],[.live (.ints .i64 v),.live (.cells [.int .i64 k,.view nl1 (.ints .i64 a) n1 1 cap1,.view nl2 (.ints .i64 b) n2 1 cap2,.view nl3 (.bools c) n3 1 cap3]),.live (.ints .i64 [vs])]=>
  some (.c (.int .i64 (cV (fun x=>b.getD x.toNat 0 !=vs) v)),[.live (.ints .i64 v),.live (.cells [.int .i64 k,.view nl1 (.ints .i64 a) n1 1 cap1,.view nl2 (.ints .i64 b) n2 1 cap2,.view nl3 (.bools c) n3 1 cap3]),.live (.ints .i64 [vs])],[decide (v.length≤274877906944),decide (v.length=n),dC v b.length,decide (n2=b.length)])
 |_,_=>none
theorem OH (k:Int) (n1 n2 n3:Nat) (nl1 nl2 nl3:Option Bool) (cap1 cap2 cap3:Option Nat) (a b:List Int) (c:List Bool) (vs:Int) (v:List Int):aG tt (aB T27) ([(0,⟨aA f0 0,jQ k n1 n2 n3 nl1 nl2 nl3 cap1 cap2 cap3 a b c vs v 0,.normal,H3 k n1 n2 n3 nl1 nl2 nl3 cap1 cap2 cap3 a b c vs v⟩)]) 100 f0 [.c (.sl 0 0 v.length 1 none),.c (.fn 155 [.ptr 1 0 0 0,.ptr 2 0 0 0])] [.live (.ints .i64 v),.live (.cells [.int .i64 k,.view nl1 (.ints .i64 a) n1 1 cap1,.view nl2 (.ints .i64 b) n2 1 cap2,.view nl3 (.bools c) n3 1 cap3]),.live (.ints .i64 [vs])] []=
  some ⟨.c (.int .i64 (-1)),[.live (.ints .i64 v),.live (.cells [.int .i64 k,.view nl1 (.ints .i64 a) n1 1 cap1,.view nl2 (.ints .i64 b) n2 1 cap2,.view nl3 (.bools c) n3 1 cap3]),.live (.ints .i64 [vs])],true,[jQ k n1 n2 n3 nl1 nl2 nl3 cap1 cap2 cap3 a b c vs v 0=jQ k n1 n2 n3 nl1 nl2 nl3 cap1 cap2 cap3 a b c vs v 0]⟩:=by kernel_rfl
theorem OI (k:Int) (n1 n2 n3:Nat) (nl1 nl2 nl3:Option Bool) (cap1 cap2 cap3:Option Nat) (a b:List Int) (c:List Bool) (vs:Int) (v:List Int) (j:Nat):aG tt (aB T27) ([(0,⟨aA f0 0,jQ k n1 n2 n3 nl1 nl2 nl3 cap1 cap2 cap3 a b c vs v 0,.ret,H9 k n1 n2 n3 nl1 nl2 nl3 cap1 cap2 cap3 a b c vs v j⟩)]) 100 f0 [.c (.sl 0 0 v.length 1 none),.c (.fn 155 [.ptr 1 0 0 0,.ptr 2 0 0 0])] [.live (.ints .i64 v),.live (.cells [.int .i64 k,.view nl1 (.ints .i64 a) n1 1 cap1,.view nl2 (.ints .i64 b) n2 1 cap2,.view nl3 (.bools c) n3 1 cap3]),.live (.ints .i64 [vs])] []=
  some ⟨.c (.int .i64 (↑j:Int)),[.live (.ints .i64 v),.live (.cells [.int .i64 k,.view nl1 (.ints .i64 a) n1 1 cap1,.view nl2 (.ints .i64 b) n2 1 cap2,.view nl3 (.bools c) n3 1 cap3]),.live (.ints .i64 [vs])],true,[jQ k n1 n2 n3 nl1 nl2 nl3 cap1 cap2 cap3 a b c vs v 0=jQ k n1 n2 n3 nl1 nl2 nl3 cap1 cap2 cap3 a b c vs v 0]⟩:=by kernel_rfl
theorem XY:aS Tryz.prog 176 wP:=by
 intro args h res h' o he ho
 unfold wP at he
 split at he
 case h_2=>cases he
 rename_i n v k nl1 a n1 cap1 nl2 b n2 cap2 nl3 c n3 cap3 vs
 simp only[Option.some.injEq,Prod.mk.injEq]at he
 obtain⟨rfl,rfl,rfl⟩:=he
 simp only[List.mem_cons,List.not_mem_nil,or_false,forall_eq_or_imp,forall_eq,decide_eq_true_eq]at ho
 obtain⟨o1,o2,o3,o4⟩:=ho
 subst o2
 have g:=XC k n1 n2 n3 nl1 nl2 nl3 cap1 cap2 cap3 a b c vs v o1 (fun i hi=>by have:=hJ o3 hi;omega)
 unfold cV
 cases hx:dV (fun x=>b.getD x.toNat 0 !=vs) v with
 |none=>
  rw[hx]at g
  exact a5 t27 (fn:=f0) (by kernel_rfl) (by kernel_rfl) (OH k n1 n2 n3 nl1 nl2 nl3 cap1 cap2 cap3 a b c vs v) rfl (by simp) (fun cc hc=>aF.cons (c:=cc) (by cases hc;kernel_rfl) (by cases hc;exact g) aF.nil)
 |some j=>
  rw[hx]at g
  exact a5 t27 (fn:=f0) (by kernel_rfl) (by kernel_rfl) (OI k n1 n2 n3 nl1 nl2 nl3 cap1 cap2 cap3 a b c vs v j) rfl (by simp) (fun cc hc=>aF.cons (c:=cc) (by cases hc;kernel_rfl) (by cases hc;exact g) aF.nil)
noncomputable def T28:List bF:=[⟨176,[0,1],wP⟩]++T27
theorem e28:a8 Tryz.prog T28:=by
 refine a8.append ?_ e27
 intro e he
 simp only[List.mem_cons,List.not_mem_nil,or_false]at he
 subst he;exact XY
theorem t28:bN Tryz.prog (aB T28):=aP e28
noncomputable abbrev f141:=Tryz.f154
end
section
def cA (s t:b9):Prop:= ∀(X:Nat→Prop) (w:World) (ρ:Rho) (x:Wh),dW X w ρ s x→dW X w ρ t x
theorem cA.refl (s:b9):cA s s:=fun _ _ _ _ h=>h
theorem cA.take (k:IntKind) (xs:List Int) (n:Nat):cA (.live (.ints k xs)) (.live (.ints k (xs.take n))):=fun X w ρ x h=>by
 cases x with
 |unborn=>exact h.elim
 |dead=>exact h.elim
 |nil=>simp only[dW,Con.size,List.length_take]at h⊢;omega
 |row b=>
  obtain⟨cs,ty,h1,h2,h3⟩:=h
  simp only[Con.size]at h2 h3
  refine⟨cs,ty,h1,by simp only[Con.size,List.length_take];omega,fun q hq=> ?_⟩
  simp only[Con.size,List.length_take]at hq
  have:=h3 q (by omega)
  simp only[Con.cell]at this⊢
  rw[List.getD_eq_getElem?_getD,List.getElem?_take,if_pos (by omega),←List.getD_eq_getElem?_getD]
  exact this
def oC:List b9→List b9→Prop
 |[],[]=>True
 |s::r,t::r'=>cA s t∧oC r r'
 |_,_=>False
theorem kS: ∀ {h h':List b9},oC h h'→ ∀id,cA (Heap.get h id) (Heap.get h' id)
 |[],[],_,id=>cA.refl _
 |s::r,t::r',h,0=>h.1
 |s::r,t::r',h,id+1=>by
  have:=kS h.2 id
  simpa [Heap.get]using this
 |[],_::_,h,_=>h.elim
 |_::_,[],h,_=>h.elim
theorem bE.slots {P:Program} {f:FuncId} {args:List AV} {h h' h'':List b9} {res:AV} (hm:bE P f args h res h') (hs:oC h' h''):bE P f args h res h'':=by
 refine⟨hm.1,fun {X w0 ρ0} m vs hl hv=> ?_⟩
 refine Calls.mono (hm.2 m vs hl hv) ?_
 rintro e w' ⟨v,ρ',rfl,mb,im,m',hr⟩
 exact⟨v,ρ',rfl,mb,im,⟨fun id=>kS hs id _ _ _ _ (m'.slot id),m'.inj,m'.own,m'.os,m'.tape,m'.output,m'.size,m'.keep,m'.foreign⟩,hr⟩
theorem bE.nilTup {P:Program} {f:FuncId} {args:List AV} {h h':List b9} {es:Nat} {c0:Con} {r:List AV} (hm:bE P f args h (.tup (.c .nils::r)) h') (hc:c0.size=0):
  bE P f args h (.tup (.c (.sl h'.length 0 0 es none)::r)) (h'++[.live c0]):=by
 refine⟨hm.1,fun {X w0 ρ0} m vs hl hv=> ?_⟩
 refine Calls.mono (hm.2 m vs hl hv) ?_
 rintro e w' ⟨v,ρ',rfl,mb,im,m',hr⟩
 obtain⟨hun,m2⟩:=m'.addNil hc
 have mo:=fY w' hun
 refine⟨v,_,rfl,mb.trans mo.toB,im.trans mo.ids,m2, ?_⟩
 cases hr with
 |tup l vs hs hx=>
  refine .tup _ _ (by simpa using hs) fun i hi=> ?_
  cases i with
  |zero=>
   have h0:=hx 0 (by simp)
   simp only[List.getD_cons_zero]at h0⊢
   cases h0 with
   |c x v hx=>exact .c _ _ (iX hx)
  |succ i=>
   have:=hx (i+1) (by simpa using hi)
   simp only[List.getD_cons_succ]at this⊢
   exact this.mono mo
def tG (id es:Nat):List aJ→Option (List aJ)
 |[]=>none
 |.nils::r=>some (.sl id 0 0 es none::r)
 |x::r=>(tG id es r).map (x:: ·)
def zX (id es:Nat):AV→Option AV
 |.c .nils=>some (.c (.sl id 0 0 es none))
 |.agg l=>(tG id es l).map .agg
 |_=>none
def zY (id es:Nat):List AV→Option (List AV)
 |[]=>none
 |x::r=>match zX id es x with
  |some y=>some (y::r)
  |none=>(zY id es r).map (x:: ·)
def nil1 (id es:Nat):AV→Option AV
 |.tup l=>(zY id es l).map .tup
 |x=>zX id es x
theorem qL {X:Nat→Prop} {w:World} {ρ:Rho} {id es:Nat} (hun:ρ id=.unborn): ∀ {l l':List aJ},tG id es l=some l'→
  l'.length=l.length∧ ∀i v,CR X w ρ (l.getD i .any) v→CR X w (upd ρ id .nil) (l'.getD i .any) v
 |[],l',h=>by simp[tG]at h
 |x::r,l',h=>by
  have mo:=fY w hun
  by_cases hx:x=.nils
  ·subst hx
   simp only[tG,Option.some.injEq]at h
   subst h
   refine⟨rfl,fun i v hv=> ?_⟩
   cases i with
   |zero=>simp only[List.getD_cons_zero]at hv⊢;exact iX hv
   |succ i=>simp only[List.getD_cons_succ]at hv⊢;exact hv.mono mo
  ·have hh:tG id es (x::r)=(tG id es r).map (x:: ·):=by
    cases x<;>first|rfl|exact absurd rfl hx
   rw[hh]at h
   obtain⟨r',h1,h2⟩:=Option.map_eq_some_iff.1 h
   subst h2
   obtain⟨g1,g2⟩:=qL (X:=X) (w:=w) hun h1
   refine⟨by simp[g1],fun i v hv=> ?_⟩
   cases i with
   |zero=>simp only[List.getD_cons_zero]at hv⊢;exact hv.mono mo
   |succ i=>simp only[List.getD_cons_succ]at hv⊢;exact g2 i v hv
theorem kN {X:Nat→Prop} {w:World} {ρ:Rho} {id es:Nat} (hun:ρ id=.unborn) {x y:AV} {v:Value} (h:zX id es x=some y) (hx:AVR X w ρ x v):AVR X w (upd ρ id .nil) y v:=by
 unfold zX at h
 split at h
 ·injection h with h;subst h
  cases hx with
  |c x v hx=>exact .c _ _ (iX hx)
 ·obtain⟨l',h1,h2⟩:=Option.map_eq_some_iff.1 h
  subst h2
  cases hx with
  |agg cs vs hs hx=>
   obtain⟨g1,g2⟩:=qL (X:=X) (w:=w) hun h1
   exact .agg _ _ (by rw[g1];exact hs) fun i hi=>g2 i _ (hx i (by rw[←g1];exact hi))
 ·cases h
theorem qM {X:Nat→Prop} {w:World} {ρ:Rho} {id es:Nat} (hun:ρ id=.unborn): ∀ {l l':List AV},zY id es l=some l'→
  l'.length=l.length∧ ∀i v,i<l.length→AVR X w ρ (l.getD i (.tup [])) v→AVR X w (upd ρ id .nil) (l'.getD i (.tup [])) v
 |[],l',h=>by simp[zY]at h
 |x::r,l',h=>by
  have mo:=fY w hun
  simp only[zY]at h
  split at h
  ·rename_i y hy
   injection h with h;subst h
   refine⟨rfl,fun i v hi hv=> ?_⟩
   cases i with
   |zero=>simp only[List.getD_cons_zero]at hv⊢;exact kN hun hy hv
   |succ i=>simp only[List.getD_cons_succ]at hv⊢;exact hv.mono mo
  ·obtain⟨r',h1,h2⟩:=Option.map_eq_some_iff.1 h
   subst h2
   obtain⟨g1,g2⟩:=qM (X:=X) (w:=w) hun h1
   refine⟨by simp[g1],fun i v hi hv=> ?_⟩
   cases i with
   |zero=>simp only[List.getD_cons_zero]at hv⊢;exact hv.mono mo
   |succ i=>simp only[List.getD_cons_succ]at hv⊢;exact g2 i v (by simpa using hi) hv
theorem bE.nil1 {P:Program} {f:FuncId} {args:List AV} {h h':List b9} {es:Nat} {c0:Con} {res res':AV} (hm:bE P f args h res h') (hc:c0.size=0) (hr:Am.nil1 h'.length es res=some res'):
  bE P f args h res' (h'++[.live c0]):=by
 refine⟨hm.1,fun {X w0 ρ0} m vs hl hv=> ?_⟩
 refine Calls.mono (hm.2 m vs hl hv) ?_
 rintro e w' ⟨v,ρ',rfl,mb,im,m',hx⟩
 obtain⟨hun,m2⟩:=m'.addNil hc
 have mo:=fY w' hun
 refine⟨v,_,rfl,mb.trans mo.toB,im.trans mo.ids,m2, ?_⟩
 cases hx with
 |tup l vs hs hx=>
  simp only[Am.nil1]at hr
  obtain⟨l',h1,h2⟩:=Option.map_eq_some_iff.1 hr
  subst h2
  obtain⟨g1,g2⟩:=qM (X:=X) (w:=w') hun h1
  exact .tup _ _ (by rw[g1];exact hs) fun i hi=>g2 i _ (by rw[←g1];exact hi) (hx i (by rw[←g1];exact hi))
 |any=>simp[Am.nil1,zX]at hr
 |c x v hx=>exact kN hun (by simpa only[Am.nil1]using hr) (.c x v hx)
 |agg cs vs hs hx=>exact kN hun (by simpa only[Am.nil1]using hr) (.agg cs vs hs hx)
end
end Go.Proofs.YthapjdpkelihiaaGreat.Am
