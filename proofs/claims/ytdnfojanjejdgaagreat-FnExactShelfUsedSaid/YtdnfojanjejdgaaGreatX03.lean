/- DERIVED. Part 3 of the proof: C5, C6, C7, C8, C9, C10, C11, C12, C13, C14, C15, C16, C17, Am27, Am28, C18, C19, C20, Am29, C21, C22, C23, C24. No statement of the program is proved here. -/
import Derived.Test.YtdnfojanjejdgaaGreatX02
set_option linter.unusedSimpArgs false
set_option linter.unusedVariables false
set_option linter.unusedSectionVars false
namespace Go.Proofs.YtdnfojanjejdgaaGreat.Am
section
def eqC:aF→aF→Bool
 |.int k n,.int k' n'=>decide (k=k')&&decide (n=n')
 |.bool b,.bool b'=>b==b'
 |.sl id o len es none,.sl id' o' len' es' none=>id==id'&&o==o'&&len==len'&&es==es'
 |_,_=>false
theorem zR {x y:aF} (h:eqC x y=true):x=y:=by
 unfold eqC at h
 split at h
 ·simp at h;obtain⟨rfl,rfl⟩:=h;rfl
 ·simp at h;subst h;rfl
 ·simp at h;obtain⟨⟨⟨rfl,rfl⟩,rfl⟩,rfl⟩:=h;rfl
 ·cases h
def eqL {α:Type} (f:α→α→Bool):List α→List α→Bool
 |[],[]=>true
 |x::r,y::s=>f x y&&eqL f r s
 |_,_=>false
theorem iI {α:Type} {f:α→α→Bool} (hf: ∀x y,f x y=true→x=y): ∀ {l r:List α},eqL f l r=true→l=r
 |[],[],_=>rfl
 |x::l,y::r,h=>by
  simp only[eqL,Bool.and_eq_true,rpS]at h
  rw[hf _ _ h.1,iI hf h.2]
 |[],_::_,h=>by simp[eqL]at h
 |_::_,[],h=>by simp[eqL]at h
def eqA:AV→AV→Bool
 |.c x,.c y=>eqC x y
 |.agg l,.agg r=>eqL eqC l r
 |_,_=>false
theorem JE {x y:AV} (h:eqA x y=true):x=y:=by
 unfold eqA at h
 split at h
 ·rw[zR h]
 ·rw[iI (fun _ _=>zR) h]
 ·cases h
def eqS:aU→aU→Bool
 |.live (.ints k xs),.live (.ints k' ys)=>decide (k=k')&&eqL (fun a b=>decide (a=b)) xs ys
 |.live (.bools xs),.live (.bools ys)=>eqL (fun a b=>a==b) xs ys
 |_,_=>false
theorem JF {x y:aU} (h:eqS x y=true):x=y:=by
 unfold eqS at h
 split at h
 ·simp only[Bool.and_eq_true,rpS,decide_eq_true_eq]at h
  obtain⟨rfl,h⟩:=h
  rw[iI (fun a b h=>by simpa using h) h]
 ·rw[iI (fun a b h=>by simpa using h) h]
 ·cases h
def vX (r:Option rX) (res:AV) (heap:List aU):Bool:=
 match r with
 |some ⟨a,h,true,[]⟩=>eqA a res&&eqL eqS h heap
 |_=>false
theorem iY {r:Option rX} {res:AV} {heap:List aU} (h:vX r res heap=true):r=some ⟨res,heap,true,[]⟩:=by
 unfold vX at h
 split at h
 ·simp only[Bool.and_eq_true,rpS]at h
  rw[JE h.1,iI (fun _ _=>JF) h.2]
 ·cases h
def PG (n:Int):List aF:=[.int .i64 (if n=0 then 1 else 0),.int .i64 (if n=1 then 1 else 0),.int .i64 (if n=2 then 1 else 0),.int .i64 (if n=3 then 1 else 0)]
def C7:aM:=fun args h=>
 match args,h with
 |[.c (.int .i64 n)],[]=>some (.agg (PG n),[],[bet n 0 3])
 |_,_=>none
def RS (x:Int):List aF:=[.int .i64 1,.int .i64 (1*x%31),.int .i64 (1*x%31*x%31),.int .i64 (1*x%31*x%31*x%31)]
def GW:aM:=fun args h=>
 match args,h with
 |[.c (.int .i64 x)],[]=>some (.agg (RS x),[],[fok x])
 |_,_=>none
theorem a7P:aQ Tryz.prog 252 C7:=by
 intro args h res h' o he ho
 unfold C7 at he
 split at he
 ·rename_i n
  simp only[Option.some.injEq,Prod.mk.injEq]at he
  obtain⟨rfl,rfl,rfl⟩:=he
  have hb:=ho (bet n 0 3) (List.mem_singleton.2 rfl)
  simp only[bet,Bool.and_eq_true,rpS,decide_eq_true_eq]at hb
  have all:cN (fun k=>vX (aE tt (a9 T3) [] 1000 Tryz.f252 [.c (.int .i64 (k:Nat))] [] []) (.agg (PG (k:Nat))) []) 4=true:=by kernel_rfl
  have e:=iY (aX all n.toNat (by omega))
  rw[show((n.toNat:Nat):Int)=n from by omega]at e
  exact mo t3 e rfl
 ·cases he
theorem a7O:aQ Tryz.prog 251 GW:=by
 intro args h res h' o he ho
 unfold GW at he
 split at he
 ·rename_i n
  simp only[Option.some.injEq,Prod.mk.injEq]at he
  obtain⟨rfl,rfl,rfl⟩:=he
  refine MY (q:=fun n=>bE Tryz.prog _ [.c (.int .i64 n)] [] (.agg (RS n)) []) (fun k hk=> ?_) (ho _ (List.mem_singleton.2 rfl))
  have all:cN (fun k=>vX (aE tt (a9 T3) [] 1000 Tryz.f251 [.c (.int .i64 k)] [] []) (.agg (RS k)) []) 31=true:=by kernel_rfl
  exact mo t3 (iY (aX all k hk)) rfl
 ·cases he
def T5a:List aZ:=[⟨252,[],C7⟩,⟨251,[],GW⟩,⟨253,[],xI⟩]++T3
theorem e5a:a7 Tryz.prog T5a:=by
 refine a7.append ?_ e3
 intro e he
 simp only[List.mem_cons,List.not_mem_nil,or_false]at he
 rcases he with rfl|rfl|rfl
 ·exact a7P
 ·exact a7O
 ·exact a7Q
theorem t5a:bK Tryz.prog (a9 T5a):=aO e5a
def CY (r:Option rX) (xs:List Int) (len:Nat):Bool:=
 match r with
 |some ⟨.c (.view none (.ints .i64 ys) l 1 none),[],true,[]⟩=>eqL (fun a b=>decide (a=b)) ys xs&&l==len
 |_=>false
theorem zU {r:Option rX} {xs:List Int} {len:Nat} (h:CY r xs len=true):r=some ⟨.c (.view none (.ints .i64 xs) len 1 none),[],true,[]⟩:=by
 unfold CY at h
 split at h
 ·simp only[Bool.and_eq_true,rpS,beq_iff_eq]at h
  rw[iI (fun a b h=>by simpa using h) h.1,h.2]
 ·cases h
def aH (kind at_:Int):List Int:=
 if kind=1 then [[1,0,0,0],[0,1,0,0],[0,0,1,0],[0,0,0,1],[1,1,0,0],[0,0,1,1],[1,2,4,8],[1,3,9,27]].getD at_.toNat []
 else [1,(at_+1)%31,(at_+1)*(at_+1)%31,(at_+1)*(at_+1)*(at_+1)%31]
def U4 (kind at_:Int):List aF:=[.int .i64 ((aH kind at_).getD 0 0),.int .i64 ((aH kind at_).getD 1 0),.int .i64 ((aH kind at_).getD 2 0),.int .i64 ((aH kind at_).getD 3 0)]
def GY:aM:=fun args h=>
 match args,h with
 |[.c (.int .i64 k),.c (.int .i64 a)],[]=>some (.agg (U4 k a),[],[bet k 1 2,bet a 0 7])
 |_,_=>none
def wV:aM:=fun args h=>
 match args,h with
 |[.c (.int .i64 k),.c (.int .i64 a)],[]=>some (.c (.view none (.ints .i64 (aH k a)) 4 1 none),[],[bet k 1 2,bet a 0 7])
 |_,_=>none
theorem JX {q:Int→Int→Prop} (h: ∀k:Nat,k<16→q ((k/8:Nat)+1:Int) (k%8:Nat)) {k a:Int} (hk:bet k 1 2=true) (ha:bet a 0 7=true):q k a:=by
 simp only[bet,Bool.and_eq_true,rpS,decide_eq_true_eq]at hk ha
 have:=h ((k.toNat-1)*8+a.toNat) (by omega)
 have e1:(((((k.toNat-1)*8+a.toNat)/8:Nat):Int)+1)=k:=by omega
 have e2:((((k.toNat-1)*8+a.toNat)%8:Nat):Int)=a:=by omega
 rwa[e1,e2]at this
theorem a77:aQ Tryz.prog 218 GY:=by
 intro args h res h' o he ho
 unfold GY at he
 split at he
 ·rename_i k a
  simp only[Option.some.injEq,Prod.mk.injEq]at he
  obtain⟨rfl,rfl,rfl⟩:=he
  refine JX (q:=fun k a=>bE Tryz.prog _ [.c (.int .i64 k),.c (.int .i64 a)] [] (.agg (U4 k a)) []) (fun i hi=> ?_) (ho _ (by simp)) (ho _ (by simp))
  have all:cN (fun k=>vX (aE tt (a9 T5a) [] 1000 Tryz.f218 [.c (.int .i64 ((k/8:Nat)+1:Int)),.c (.int .i64 (k%8:Nat))] [] []) (.agg (U4 ((k/8:Nat)+1:Int) (k%8:Nat))) []) 16=true:=by kernel_rfl
  exact mo t5a (iY (aX all i hi)) rfl
 ·cases he
theorem a6V:aQ Tryz.prog 163 wV:=by
 intro args h res h' o he ho
 unfold wV at he
 split at he
 ·rename_i k a
  simp only[Option.some.injEq,Prod.mk.injEq]at he
  obtain⟨rfl,rfl,rfl⟩:=he
  refine JX (q:=fun k a=>bE Tryz.prog _ [.c (.int .i64 k),.c (.int .i64 a)] [] (.c (.view none (.ints .i64 (aH k a)) 4 1 none)) []) (fun i hi=> ?_) (ho _ (by simp)) (ho _ (by simp))
  by_cases h8:i<8
  ·have all:cN (fun k=>CY (aE tt (a9 T3) [] 1000 Tryz.f163 [.c (.int .i64 ((k/8:Nat)+1:Int)),.c (.int .i64 (k%8:Nat))] [] []) (aH ((k/8:Nat)+1:Int) (k%8:Nat)) 4) 8=true:=by kernel_rfl
   exact mo t3 (zU (aX all i h8)) rfl
  ·have all:cN (fun k=>vX (aE tt (a9 T3) [] 1000 Tryz.f163 [.c (.int .i64 (((k+8)/8:Nat)+1:Int)),.c (.int .i64 ((k+8)%8:Nat))] [] []) (.c (.sl 0 0 4 1 none)) [.live (.ints .i64 (aH (((k+8)/8:Nat)+1:Int) ((k+8)%8:Nat)))]) 8=true:=by kernel_rfl
   have e:=iY (aX all (i-8) (by omega))
   rw[show i-8+8=i from by omega]at e
   refine bE.view (mo t3 e rfl) rfl ?_
   have:(((i/8:Nat)+1:Int))=2:=by omega
   rw[this];rfl
 ·cases he
def T5:List aZ:=[⟨218,[],GY⟩,⟨163,[],wV⟩,⟨259,[],rW⟩,⟨219,[],C9⟩,⟨222,[],xH⟩]++T5a
theorem e5:a7 Tryz.prog T5:=by
 refine a7.append ?_ e5a
 intro e he
 simp only[List.mem_cons,List.not_mem_nil,or_false]at he
 rcases he with rfl|rfl|rfl|rfl|rfl
 ·exact a77
 ·exact a6V
 ·exact a83
 ·exact a78
 ·exact a7J
theorem t5:bK Tryz.prog (a9 T5):=aO e5
end
section
def aA (v:List Int):Bool:=v.all fok
theorem aT {v:List Int} (h:aA v=true) (i:Nat):fok (v.getD i 0)=true:=by
 rcases Nat.lt_or_ge i v.length with hi|hi
 ·rw[List.getD_eq_getElem?_getD,List.getElem?_eq_getElem hi]
  exact List.all_eq_true.1 h _ (List.getElem_mem hi)
 ·rw[List.getD_eq_getElem?_getD,List.getElem?_eq_none hi];rfl
theorem nE {n:Int} (h:0≤n):n.tmod 31=n%31:=Int.tmod_eq_emod_of_nonneg h
def pU (v w:List Int):Nat→Nat→Int→Int
 |0,_,n=>n
 |k+1,i,n=>pU v w k (i+1) ((n+v.getD i 0*w.getD i 0)%31)
def aP (v w:List Int):Int:=pU v w v.length 0 0
noncomputable abbrev f108:=Tryz.f162
def yL (nl nl2:Option Bool) (cap cap2:Option Nat) (v w:List Int) (i n:Int):St:=
 aR 26 [(0,.c (.view nl (.ints .i64 v) v.length 1 cap)),(1,.c (.view nl2 (.ints .i64 w) w.length 1 cap2)),(5,.c (.int .i64 n)),(6,.c (.int .i64 i))] []
def LB (n:Int):St:=aR 26 [(5,.c (.int .i64 n))] []
section
variable (ct : CT) (nl nl2 : Option Bool) (cap cap2 : Option Nat) (v w : List Int) (i n : Int)
theorem RY:aC 0 (a6 f108 0) (a8 f108 0) (aD tt ct [] 0 100 (a5 0 (a0 f108)) (yL nl nl2 cap cap2 v w i n) [(0,true)])=
  some (.normal,(decide (i<v.length)&&(decide (0≤i)&&(decide (i<v.length)&&(decide (i.toNat<v.length)&&(decide (0≤i)&&(decide (i<w.length)&&(decide (i.toNat<w.length)&&true))))))),[],
   yL nl nl2 cap cap2 v w (IntKind.i64.wrap (i+1)) ((IntKind.i64.wrap (n+IntKind.i64.wrap (v.getD i.toNat 0*w.getD i.toNat 0))).tmod 31)):=by kernel_rfl
theorem RZ:aC 0 (a6 f108 0) (a8 f108 0) (aD tt ct [] 0 100 (a5 0 (a0 f108)) (yL nl nl2 cap cap2 v w i n) [(0,false)])=
  some (.exit 0,(!decide (i<v.length)&&true),[],LB n):=by kernel_rfl
end
theorem sJ {n a b:Int} (hn:fok n=true) (ha:fok a=true) (hb:fok b=true):(IntKind.i64.wrap (n+IntKind.i64.wrap (a*b))).tmod 31=(n+a*b)%31:=by
 obtain⟨h1,h2⟩:=kX ha hb
 obtain⟨h3,h4⟩:=eK.1 hn
 rw[nZ ha hb,cR (by omega) (by omega),nE (by omega)]
theorem a5R {ct:CT} (hct:bK Tryz.prog ct) (nl nl2:Option Bool) (cap cap2:Option Nat) (v w:List Int) (hl:v.length≤274877906944) (hvw:v.length≤w.length) (hv:aA v=true) (hw:aA w=true):
  aN none Tryz.prog 0 (.block 0 (.loop (a5 0 (a0 f108)))) (yL nl nl2 cap cap2 v w 0 0) fun e t=>e=.normal∧t=LB (aP v w):=by
 refine aN.roundsN (ro:=none) hT hct bF (m:=0) (id:=0) (body:=a5 0 (a0 f108)) (α:=Nat×Int)
  (fun x=>x.1≤v.length∧fok x.2=true∧pU v w (v.length-x.1) x.1 x.2=aP v w) (fun x=>yL nl nl2 cap cap2 v w x.1 x.2) (fun x=>v.length-x.1) (a6 f108 0) (a8 f108 0)
  (fun _=>LB (aP v w)) (fun _=>[]) (fun _ _=>aK.nil) (fun x hx=> ?_) (0,0) ⟨by simp,rfl,rfl⟩
 obtain⟨i,n⟩:=x
 obtain⟨h1,h2,h3⟩:=hx
 dsimp only at h1 h2 h3⊢
 by_cases hi:i<v.length
 ·have hk:v.length-i=(v.length-(i+1))+1:=by omega
  rw[hk]at h3
  simp only[pU]at h3
  refine⟨_,_,_,_,_,_,RY ct nl nl2 cap cap2 v w i n, ?_,by simp,.inl ⟨rfl,(i+1,(n+v.getD i 0*w.getD i 0)%31),⟨by omega,c9 _,h3⟩,by dsimp only;omega, ?_,rfl⟩⟩
  ·simp;omega
  ·rw[aB (by omega) (by omega),Int.toNat_natCast,sJ h2 (aT hv i) (aT hw i)];simp
 ·have hz:v.length-i=0:=by omega
  rw[hz]at h3
  simp only[pU]at h3
  exact⟨_,_,_,_,_,_,RZ ct nl nl2 cap cap2 v w i n,by simp;omega,by simp,.inr ⟨rfl,by rw[h3]⟩⟩
def GM:aM:=fun args h=>
 match args,h with
 |[.c (.view nl (.ints .i64 v) len 1 cap),.c (.view nl2 (.ints .i64 w) len2 1 cap2)],[]=>
  some (.c (.int .i64 (aP v w)),[],[decide (v.length≤274877906944),decide (v.length≤w.length),aA v,aA w])
 |_,_=>none
theorem a6U {ct:CT} (hct:bK Tryz.prog ct):aQ Tryz.prog 162 GM:=by
 intro args h res h' o he ho
 unfold GM at he
 split at he
 ·rename_i nl v len cap nl2 w len2 cap2
  simp only[Option.some.injEq,Prod.mk.injEq]at he
  obtain⟨rfl,rfl,rfl⟩:=he
  simp only[List.mem_cons,List.not_mem_nil,or_false,forall_eq_or_imp,forall_eq,decide_eq_true_eq]at ho
  obtain⟨o1,o2,o3,o4⟩:=ho
  refine bE.len ⟨f108,by kernel_rfl,by kernel_rfl,by kernel_rfl⟩ fun hlen=> ?_
  simp only[List.mem_cons,List.not_mem_nil,or_false,forall_eq_or_imp,forall_eq,AV.lenOk,aF.lenOk,Con.size,Nat.mul_one]at hlen
  obtain⟨rfl,rfl⟩:=hlen
  exact c8 hct (fn:=f108) (lc:=[(0,⟨a6 f108 0,yL nl nl2 cap cap2 v w 0 0,.normal,LB (aP v w)⟩)]) (fuel:=100) (p:=[]) (o:=⟨_,_,true,[yL nl nl2 cap cap2 v w 0 0=yL nl nl2 cap cap2 v w 0 0]⟩)
   (by kernel_rfl) (by kernel_rfl) (by kernel_rfl) rfl (by simp) (fun c hc=>aK.cons (c:=c) (by cases hc;kernel_rfl) (by cases hc;exact a5R hct nl nl2 cap cap2 v w o1 o2 o3 o4) aK.nil)
 ·cases he
end
section
def gJ (f:Nat→Int):Nat→Nat→List Int
 |0,_=>[]
 |k+1,i=>f i::gJ f k (i+1)
theorem oX (f:Nat→Int): ∀k i,(gJ f k i).length=k
 |0,_=>rfl
 |k+1,i=>by simp[gJ,oX f k (i+1)]
def OF (v w:List Int) (i:Nat):Int:=(v.getD i 0+w.getD i 0)%31
def uF (v w:List Int):List Int:=gJ (OF v w) v.length 0
noncomputable abbrev f180:=Tryz.f270
noncomputable def yQ (nl nl2:Option Bool) (cap cap2:Option Nat) (v w:List Int) (i:Int) (n:Nat) (out:List Int):St:=
 aR f180.ntmps [(0,.c (.view nl (.ints .i64 v) v.length 1 cap)),(1,.c (.view nl2 (.ints .i64 w) w.length 1 cap2)),(5,.c (.sl 0 0 n 1 none)),(6,.c (.int .i64 i))] [.live (.ints .i64 out)]
noncomputable def LQ (n:Nat) (out:List Int):St:=aR f180.ntmps [(5,.c (.sl 0 0 n 1 none))] [.live (.ints .i64 out)]
section
variable (ct : CT) (nl nl2 : Option Bool) (cap cap2 : Option Nat) (v w : List Int) (i : Int) (n : Nat) (out : List Int)
theorem TH:aC 0 (a6 f180 0) (a8 f180 0) (aD tt ct [] 0 100 (a5 0 (a0 f180)) (yQ nl nl2 cap cap2 v w i n out) [(0,true)])=
  some (.normal,(decide (i<v.length)&&(decide (0≤i)&&(decide (i<v.length)&&(decide (i.toNat<v.length)&&(decide (0≤i)&&(decide (i<w.length)&&(decide (i.toNat<w.length)&&
   (decide (1=[(IntKind.i64.wrap (v.getD i.toNat 0+w.getD i.toNat 0)).tmod 31].length)&&(decide (n=out.length)&&(decide (n+1≤274877906944)&&true)))))))))),[],
   yQ nl nl2 cap cap2 v w (IntKind.i64.wrap (i+1)) (n+1) (out++[(IntKind.i64.wrap (v.getD i.toNat 0+w.getD i.toNat 0)).tmod 31])):=by kernel_rfl
theorem TJ:aC 0 (a6 f180 0) (a8 f180 0) (aD tt ct [] 0 100 (a5 0 (a0 f180)) (yQ nl nl2 cap cap2 v w i n out) [(0,false)])=
  some (.exit 0,(!decide (i<v.length)&&true),[],LQ n out):=by kernel_rfl
end
theorem KV {a b:Int} (ha:fok a=true) (hb:fok b=true):(IntKind.i64.wrap (a+b)).tmod 31=(a+b)%31:=by
 obtain⟨h3,h4⟩:=eK.1 ha;obtain⟨h1,h2⟩:=eK.1 hb
 rw[BE ha hb,nE (by omega)]
theorem a6A {ct:CT} (hct:bK Tryz.prog ct) (nl nl2:Option Bool) (cap cap2:Option Nat) (v w:List Int) (hl:v.length≤274877906944) (hvw:v.length≤w.length) (hv:aA v=true) (hw:aA w=true):
  aN none Tryz.prog 0 (.block 0 (.loop (a5 0 (a0 f180)))) (yQ nl nl2 cap cap2 v w 0 0 []) fun e t=>e=.normal∧t=LQ v.length (uF v w):=by
 refine aN.roundsN (ro:=none) hT hct bF (m:=0) (id:=0) (body:=a5 0 (a0 f180)) (α:=Nat×List Int)
  (fun x=>x.1≤v.length∧x.2.length=x.1∧x.2++gJ (OF v w) (v.length-x.1) x.1=uF v w) (fun x=>yQ nl nl2 cap cap2 v w x.1 x.2.length x.2) (fun x=>v.length-x.1) (a6 f180 0) (a8 f180 0)
  (fun _=>LQ v.length (uF v w)) (fun _=>[]) (fun _ _=>aK.nil) (fun x hx=> ?_) (0,[]) ⟨by simp,rfl,rfl⟩
 obtain⟨i,out⟩:=x
 obtain⟨h1,h2,h3⟩:=hx
 dsimp only at h1 h2 h3⊢
 by_cases hi:i<v.length
 ·have hk:v.length-i=(v.length-(i+1))+1:=by omega
  rw[hk]at h3
  simp only[gJ]at h3
  refine⟨_,_,_,_,_,_,TH ct nl nl2 cap cap2 v w i out.length out, ?_,by simp,.inl ⟨rfl,(i+1,out++[OF v w i]),⟨by omega,by simp[h2],by simpa using h3⟩,by dsimp only;omega, ?_,rfl⟩⟩
  ·simp;omega
  ·rw[aB (by omega) (by omega),Int.toNat_natCast,KV (aT hv i) (aT hw i)];simp[OF]
 ·have hz:v.length-i=0:=by omega
  rw[hz]at h3
  simp only[gJ,List.append_nil]at h3
  have e:out.length=v.length:=by omega
  exact⟨_,_,_,_,_,_,TJ ct nl nl2 cap cap2 v w i out.length out,by simp;omega,by simp,.inr ⟨rfl,by rw[←h3,e]⟩⟩
def H4:aM:=fun args h=>
 match args,h with
 |[.c (.view nl (.ints .i64 v) len 1 cap),.c (.view nl2 (.ints .i64 w) len2 1 cap2)],[]=>
  some (.c (.sl 0 0 v.length 1 none),[.live (.ints .i64 (uF v w))],[decide (v.length≤274877906944),decide (v.length≤w.length),aA v,aA w])
 |_,_=>none
theorem YS {ct:CT} (hct:bK Tryz.prog ct):aQ Tryz.prog 270 H4:=by
 intro args h res h' o he ho
 unfold H4 at he
 split at he
 ·rename_i nl v len cap nl2 w len2 cap2
  simp only[Option.some.injEq,Prod.mk.injEq]at he
  obtain⟨rfl,rfl,rfl⟩:=he
  simp only[List.mem_cons,List.not_mem_nil,or_false,forall_eq_or_imp,forall_eq,decide_eq_true_eq]at ho
  obtain⟨o1,o2,o3,o4⟩:=ho
  refine bE.len ⟨f180,by kernel_rfl,by kernel_rfl,by kernel_rfl⟩ fun hlen=> ?_
  simp only[List.mem_cons,List.not_mem_nil,or_false,forall_eq_or_imp,forall_eq,AV.lenOk,aF.lenOk,Con.size,Nat.mul_one]at hlen
  obtain⟨rfl,rfl⟩:=hlen
  exact c8 hct (fn:=f180) (lc:=[(0,⟨a6 f180 0,yQ nl nl2 cap cap2 v w 0 0 [],.normal,LQ v.length (uF v w)⟩)]) (fuel:=100) (p:=[]) (o:=⟨_,_,true,[yQ nl nl2 cap cap2 v w 0 0 []=yQ nl nl2 cap cap2 v w 0 0 []]⟩)
   (by kernel_rfl) (by kernel_rfl) (by kernel_rfl) rfl (by simp) (fun c hc=>aK.cons (c:=c) (by cases hc;kernel_rfl) (by cases hc;exact a6A hct nl nl2 cap cap2 v w o1 o2 o3 o4) aK.nil)
 ·cases he
end
section
def pD (v:List Int) (c:Int) (i:Nat):Int:=(v.getD i 0*c)%31
def dW (v:List Int) (c:Int):List Int:=gJ (pD v c) v.length 0
noncomputable abbrev f156:=Tryz.f241
noncomputable def yO (nl:Option Bool) (cap:Option Nat) (v:List Int) (c i:Int) (n:Nat) (out:List Int):St:=
 aR f156.ntmps [(0,.c (.view nl (.ints .i64 v) v.length 1 cap)),(1,.c (.int .i64 c)),(5,.c (.sl 0 0 n 1 none)),(6,.c (.int .i64 i))] [.live (.ints .i64 out)]
noncomputable def LL (n:Nat) (out:List Int):St:=aR f156.ntmps [(5,.c (.sl 0 0 n 1 none))] [.live (.ints .i64 out)]
section
variable (ct : CT) (nl : Option Bool) (cap : Option Nat) (v : List Int) (c i : Int) (n : Nat) (out : List Int)
theorem SX:aC 0 (a6 f156 0) (a8 f156 0) (aD tt ct [] 0 100 (a5 0 (a0 f156)) (yO nl cap v c i n out) [(0,true)])=
  some (.normal,(decide (i<v.length)&&(decide (0≤i)&&(decide (i<v.length)&&(decide (i.toNat<v.length)&&((decide (1=[(IntKind.i64.wrap (v.getD i.toNat 0*c)).tmod 31].length)&&(decide (n=out.length)&&(decide (n+1≤274877906944)&&true)))))))),[],
   yO nl cap v c (IntKind.i64.wrap (i+1)) (n+1) (out++[(IntKind.i64.wrap (v.getD i.toNat 0*c)).tmod 31])):=by kernel_rfl
theorem SY:aC 0 (a6 f156 0) (a8 f156 0) (aD tt ct [] 0 100 (a5 0 (a0 f156)) (yO nl cap v c i n out) [(0,false)])=
  some (.exit 0,(!decide (i<v.length)&&true),[],LL n out):=by kernel_rfl
end
theorem DE {a b:Int} (ha:fok a=true) (hb:fok b=true):(IntKind.i64.wrap (a*b)).tmod 31=(a*b)%31:=by
 obtain⟨h1,h2⟩:=kX ha hb
 rw[nZ ha hb,nE (by omega)]
theorem a65 {ct:CT} (hct:bK Tryz.prog ct) (nl:Option Bool) (cap:Option Nat) (v:List Int) (c:Int) (hl:v.length≤274877906944) (hv:aA v=true) (hc:fok c=true):
  aN none Tryz.prog 0 (.block 0 (.loop (a5 0 (a0 f156)))) (yO nl cap v c 0 0 []) fun e t=>e=.normal∧t=LL v.length (dW v c):=by
 refine aN.roundsN (ro:=none) hT hct bF (m:=0) (id:=0) (body:=a5 0 (a0 f156)) (α:=Nat×List Int)
  (fun x=>x.1≤v.length∧x.2.length=x.1∧x.2++gJ (pD v c) (v.length-x.1) x.1=dW v c) (fun x=>yO nl cap v c x.1 x.2.length x.2) (fun x=>v.length-x.1) (a6 f156 0) (a8 f156 0)
  (fun _=>LL v.length (dW v c)) (fun _=>[]) (fun _ _=>aK.nil) (fun x hx=> ?_) (0,[]) ⟨by simp,rfl,rfl⟩
 obtain⟨i,out⟩:=x
 obtain⟨h1,h2,h3⟩:=hx
 dsimp only at h1 h2 h3⊢
 by_cases hi:i<v.length
 ·have hk:v.length-i=(v.length-(i+1))+1:=by omega
  rw[hk]at h3
  simp only[gJ]at h3
  refine⟨_,_,_,_,_,_,SX ct nl cap v c i out.length out, ?_,by simp,.inl ⟨rfl,(i+1,out++[pD v c i]),⟨by omega,by simp[h2],by simpa using h3⟩,by dsimp only;omega, ?_,rfl⟩⟩
  ·simp;omega
  ·rw[aB (by omega) (by omega),Int.toNat_natCast,DE (aT hv i) hc];simp[pD]
 ·have hz:v.length-i=0:=by omega
  rw[hz]at h3
  simp only[gJ,List.append_nil]at h3
  have e:out.length=v.length:=by omega
  exact⟨_,_,_,_,_,_,SY ct nl cap v c i out.length out,by simp;omega,by simp,.inr ⟨rfl,by rw[←h3,e]⟩⟩
def qX:aM:=fun args h=>
 match args,h with
 |[.c (.view nl (.ints .i64 v) len 1 cap),.c (.int .i64 c)],[]=>
  some (.c (.sl 0 0 v.length 1 none),[.live (.ints .i64 (dW v c))],[decide (v.length≤274877906944),aA v,fok c])
 |_,_=>none
theorem RQ {ct:CT} (hct:bK Tryz.prog ct):aQ Tryz.prog 241 qX:=by
 intro args h res h' o he ho
 unfold qX at he
 split at he
 ·rename_i nl v len cap c
  simp only[Option.some.injEq,Prod.mk.injEq]at he
  obtain⟨rfl,rfl,rfl⟩:=he
  simp only[List.mem_cons,List.not_mem_nil,or_false,forall_eq_or_imp,forall_eq,decide_eq_true_eq]at ho
  obtain⟨o1,o2,o3⟩:=ho
  refine bE.len ⟨f156,by kernel_rfl,by kernel_rfl,by kernel_rfl⟩ fun hlen=> ?_
  simp only[List.mem_cons,List.not_mem_nil,or_false,forall_eq_or_imp,forall_eq,AV.lenOk,aF.lenOk,Con.size,Nat.mul_one]at hlen
  obtain⟨rfl,-⟩:=hlen
  exact c8 hct (fn:=f156) (lc:=[(0,⟨a6 f156 0,yO nl cap v c 0 0 [],.normal,LL v.length (dW v c)⟩)]) (fuel:=100) (p:=[]) (o:=⟨_,_,true,[yO nl cap v c 0 0 []=yO nl cap v c 0 0 []]⟩)
   (by kernel_rfl) (by kernel_rfl) (by kernel_rfl) rfl (by simp) (fun cc hc=>aK.cons (c:=cc) (by cases hc;kernel_rfl) (by cases hc;exact a65 hct nl cap v c o1 o2 o3) aK.nil)
 ·cases he
end
section
def fB (v:List Int):Nat→Nat→Option Nat
 |0,_=>none
 |k+1,i=>if v.getD i 0=0 then fB v k (i+1)else some i
def kB (v:List Int):Option Nat:=fB v v.length 0
def aV (v:List Int):Int:=match kB v with|some j=>(j:Int)|none=> -1
noncomputable abbrev f154:=Tryz.f239
noncomputable def qN (nl:Option Bool) (cap:Option Nat) (v:List Int) (i:Int):St:=
 aR f154.ntmps [(0,.c (.view nl (.ints .i64 v) v.length 1 cap)),(3,.c (.int .i64 i))] []
noncomputable def QC:St:=aR f154.ntmps [] []
noncomputable def QF (i:Int):St:=aR f154.ntmps [(2,.c (.int .i64 i))] []
section
variable (ct : CT) (nl : Option Bool) (cap : Option Nat) (v : List Int) (i : Int)
theorem SU:aC 0 (a6 f154 0) (a8 f154 0) (aD tt ct [] 0 100 (a5 0 (a0 f154)) (qN nl cap v i) [(0,true),(0,true)])=
  some (.ret,(decide (i<v.length)&&(decide (0≤i)&&(decide (i<v.length)&&(decide (i.toNat<v.length)&&(v.getD i.toNat 0 !=0&&true))))),[],QF i):=by kernel_rfl
theorem SV:aC 0 (a6 f154 0) (a8 f154 0) (aD tt ct [] 0 100 (a5 0 (a0 f154)) (qN nl cap v i) [(0,true),(0,false)])=
  some (.normal,(decide (i<v.length)&&(decide (0≤i)&&(decide (i<v.length)&&(decide (i.toNat<v.length)&&(!(v.getD i.toNat 0 !=0)&&true))))),[],qN nl cap v (IntKind.i64.wrap (i+1))):=by kernel_rfl
theorem SW:aC 0 (a6 f154 0) (a8 f154 0) (aD tt ct [] 0 100 (a5 0 (a0 f154)) (qN nl cap v i) [(0,false)])=
  some (.exit 0,(!decide (i<v.length)&&true),[],QC):=by kernel_rfl
end
def uW:Option Nat→Ex
 |some _=> .ret
 |none=> .normal
noncomputable def YV:Option Nat→St
 |some j=>QF j
 |none=>QC
theorem a64 {ct:CT} (hct:bK Tryz.prog ct) (nl:Option Bool) (cap:Option Nat) (v:List Int) (hl:v.length≤274877906944):
  aN none Tryz.prog 0 (.block 0 (.loop (a5 0 (a0 f154)))) (qN nl cap v 0) fun e t=>e=uW (kB v)∧t=YV (kB v):=by
 refine aN.roundsR (ro:=none) hT hct bF (m:=0) (id:=0) (body:=a5 0 (a0 f154)) (α:=Nat)
  (fun i=>i≤v.length∧fB v (v.length-i) i=kB v) (fun i=>qN nl cap v i) (fun i=>v.length-i) (a6 f154 0) (a8 f154 0)
  (fun _=>uW (kB v)) (fun _=>YV (kB v)) (fun _=>[]) (fun _ _=>aK.nil) (fun i hx=> ?_) 0 ⟨by simp,rfl⟩
 obtain⟨h1,h3⟩:=hx
 by_cases hi:i<v.length
 ·have hk:v.length-i=(v.length-(i+1))+1:=by omega
  rw[hk]at h3
  simp only[fB]at h3
  by_cases hz:v.getD i 0=0
  ·rw[if_pos hz]at h3
   refine⟨_,_,_,_,_,_,SV ct nl cap v i, ?_,by simp,.inl ⟨rfl,i+1,⟨by omega,h3⟩,by omega, ?_,rfl,rfl⟩⟩
   ·simp[-List.getD_eq_getElem?_getD,hi,hz]
   ·rw[aB (by omega) (by omega)];simp
  ·rw[if_neg hz]at h3
   refine⟨_,_,_,_,_,_,SU ct nl cap v i, ?_,by simp,.inr (.inr ⟨by simp,by simp, ?_, ?_⟩)⟩
   ·simp[-List.getD_eq_getElem?_getD,hi,hz]
   ·rw[←h3];rfl
   ·rw[←h3];rfl
 ·have hz:v.length-i=0:=by omega
  rw[hz]at h3
  simp only[fB]at h3
  exact⟨_,_,_,_,_,_,SW ct nl cap v i,by simp;omega,by simp,.inr (.inl ⟨rfl,by rw[←h3];rfl,by rw[←h3];rfl⟩)⟩
def BP:aM:=fun args h=>
 match args,h with
 |[.c (.view nl (.ints .i64 v) len 1 cap)],[]=>some (.c (.int .i64 (aV v)),[],[decide (v.length≤274877906944)])
 |_,_=>none
theorem a7U {ct:CT} (hct:bK Tryz.prog ct):aQ Tryz.prog 239 BP:=by
 intro args h res h' o he ho
 unfold BP at he
 split at he
 ·rename_i nl v len cap
  simp only[Option.some.injEq,Prod.mk.injEq]at he
  obtain⟨rfl,rfl,rfl⟩:=he
  have o1:v.length≤274877906944:=by simpa using ho
  refine bE.len ⟨f154,by kernel_rfl,by kernel_rfl,by kernel_rfl⟩ fun hlen=> ?_
  simp only[List.mem_cons,List.not_mem_nil,or_false,forall_eq,AV.lenOk,aF.lenOk,Con.size,Nat.mul_one]at hlen
  subst hlen
  have g:=a64 hct nl cap v o1
  unfold aV
  cases hx:kB v with
  |none=>
   rw[hx]at g
   exact c8 hct (fn:=f154) (lc:=[(0,⟨a6 f154 0,qN nl cap v 0,.normal,QC⟩)]) (fuel:=100) (p:=[]) (o:=⟨_,_,true,[qN nl cap v 0=qN nl cap v 0]⟩)
    (by kernel_rfl) (by kernel_rfl) (by kernel_rfl) rfl (by simp) (fun cc hc=>aK.cons (c:=cc) (by cases hc;kernel_rfl) (by cases hc;exact g) aK.nil)
  |some j=>
   rw[hx]at g
   exact c8 hct (fn:=f154) (lc:=[(0,⟨a6 f154 0,qN nl cap v 0,.ret,QF j⟩)]) (fuel:=100) (p:=[]) (o:=⟨_,_,true,[qN nl cap v 0=qN nl cap v 0]⟩)
    (by kernel_rfl) (by kernel_rfl) (by kernel_rfl) rfl (by simp) (fun cc hc=>aK.cons (c:=cc) (by cases hc;kernel_rfl) (by cases hc;exact g) aK.nil)
 ·cases he
end
section
def T6:List aZ:=[⟨162,[],GM⟩,⟨270,[],H4⟩,⟨241,[],qX⟩,⟨239,[],BP⟩]++T5
theorem e6:a7 Tryz.prog T6:=by
 refine a7.append ?_ e5
 intro e he
 simp only[List.mem_cons,List.not_mem_nil,or_false]at he
 rcases he with rfl|rfl|rfl|rfl
 ·exact a6U t5
 ·exact YS t5
 ·exact RQ t5
 ·exact a7U t5
theorem t6:bK Tryz.prog (a9 T6):=aO e6
def FH (v:List Int):Nat→Nat→Bool
 |0,_=>true
 |k+1,i=>fok (v.getD i 0)&&FH v k (i+1)
theorem EE (v:List Int): ∀k i,k=v.length-i→FH v k i=(v.drop i).all fok
 |0,i,h=>by
  rw[List.drop_eq_nil_of_le (by omega)];rfl
 |k+1,i,h=>by
  have hi:i<v.length:=by omega
  rw[List.drop_eq_getElem_cons hi]
  simp only[FH,List.all_cons]
  rw[EE v k (i+1) (by omega),List.getD_eq_getElem?_getD,List.getElem?_eq_getElem hi];rfl
noncomputable abbrev f60:=Tryz.f113
noncomputable def I60 (nl:Option Bool) (cap:Option Nat) (v:List Int) (i:Int):St:=
 aR f60.ntmps [(0,.c (.view nl (.ints .i64 v) v.length 1 cap)),(3,.c (.int .i64 i))] []
noncomputable def X60 (nl:Option Bool) (cap:Option Nat) (v:List Int):St:=aR f60.ntmps [(0,.c (.view nl (.ints .i64 v) v.length 1 cap))] []
noncomputable def Y60 (nl:Option Bool) (cap:Option Nat) (v:List Int):St:=aR f60.ntmps [(0,.c (.view nl (.ints .i64 v) v.length 1 cap)),(2,.c (.bool false))] []
section
variable (nl : Option Bool) (cap : Option Nat) (v : List Int) (i : Int)
theorem ZR:aC 0 (a6 f60 0) (a8 f60 0) (aD tt (a9 T6) [] 0 100 (a5 0 (a0 f60)) (I60 nl cap v i) [(0,true),(0,true)])=
  some (.ret,(decide (i<v.length)&&(decide (0≤i)&&(decide (i<v.length)&&(decide (i.toNat<v.length)&&(!fok (v.getD i.toNat 0)&&true))))),[],Y60 nl cap v):=by kernel_rfl
theorem ZS:aC 0 (a6 f60 0) (a8 f60 0) (aD tt (a9 T6) [] 0 100 (a5 0 (a0 f60)) (I60 nl cap v i) [(0,true),(0,false)])=
  some (.normal,(decide (i<v.length)&&(decide (0≤i)&&(decide (i<v.length)&&(decide (i.toNat<v.length)&&(!!fok (v.getD i.toNat 0)&&true))))),[],I60 nl cap v (IntKind.i64.wrap (i+1))):=by kernel_rfl
theorem ZT:aC 0 (a6 f60 0) (a8 f60 0) (aD tt (a9 T6) [] 0 100 (a5 0 (a0 f60)) (I60 nl cap v i) [(0,false)])=
  some (.exit 0,(!decide (i<v.length)&&true),[],X60 nl cap v):=by kernel_rfl
end
def e60:Bool→Ex
 |true=> .normal
 |false=> .ret
noncomputable def p60 (nl:Option Bool) (cap:Option Nat) (v:List Int):Bool→St
 |true=>X60 nl cap v
 |false=>Y60 nl cap v
theorem l60 (nl:Option Bool) (cap:Option Nat) (v:List Int) (hl:v.length≤274877906944):
  aN none Tryz.prog 0 (.block 0 (.loop (a5 0 (a0 f60)))) (I60 nl cap v 0) fun e t=>e=e60 (aA v)∧t=p60 nl cap v (aA v):=by
 refine aN.roundsR (ro:=none) hT t6 bF (m:=0) (id:=0) (body:=a5 0 (a0 f60)) (α:=Nat)
  (fun i=>i≤v.length∧FH v (v.length-i) i=aA v) (fun i=>I60 nl cap v i) (fun i=>v.length-i) (a6 f60 0) (a8 f60 0)
  (fun _=>e60 (aA v)) (fun _=>p60 nl cap v (aA v)) (fun _=>[]) (fun _ _=>aK.nil) (fun i hx=> ?_) 0 ⟨by simp,by rw[EE v _ _ (by simp)];rfl⟩
 obtain⟨h1,h3⟩:=hx
 by_cases hi:i<v.length
 ·have hk:v.length-i=(v.length-(i+1))+1:=by omega
  rw[hk]at h3
  simp only[FH]at h3
  cases hz:fok (v.getD i 0)with
  |true=>
   rw[hz,Bool.true_and]at h3
   refine⟨_,_,_,_,_,_,ZS nl cap v i, ?_,by simp,.inl ⟨rfl,i+1,⟨by omega,h3⟩,by omega, ?_,rfl,rfl⟩⟩
   ·simp[-List.getD_eq_getElem?_getD,hi,hz]
   ·rw[aB (by omega) (by omega)];simp
  |false=>
   rw[hz,Bool.false_and]at h3
   refine⟨_,_,_,_,_,_,ZR nl cap v i, ?_,by simp,.inr (.inr ⟨by simp,by simp, ?_, ?_⟩)⟩
   ·simp[-List.getD_eq_getElem?_getD,hi,hz]
   ·rw[←h3];rfl
   ·rw[←h3];rfl
 ·have hz:v.length-i=0:=by omega
  rw[hz]at h3
  simp only[FH]at h3
  exact⟨_,_,_,_,_,_,ZT nl cap v i,by simp;omega,by simp,.inr (.inl ⟨rfl,by rw[←h3];rfl,by rw[←h3];rfl⟩)⟩
def vok (v:List Int):Bool:=aA v&&decide ((v.length:Int)=4)
def HA:aM:=fun args h=>
 match args,h with
 |[.c (.view nl (.ints .i64 v) len 1 cap)],[]=>some (.c (.bool (vok v)),[],[decide (v.length≤274877906944)])
 |_,_=>none
theorem m60:aQ Tryz.prog 113 HA:=by
 intro args h res h' o he ho
 unfold HA at he
 split at he
 ·rename_i nl v len cap
  simp only[Option.some.injEq,Prod.mk.injEq]at he
  obtain⟨rfl,rfl,rfl⟩:=he
  have o1:v.length≤274877906944:=by simpa using ho
  refine bE.len ⟨f60,by kernel_rfl,by kernel_rfl,by kernel_rfl⟩ fun hlen=> ?_
  simp only[List.mem_cons,List.not_mem_nil,or_false,forall_eq,AV.lenOk,aF.lenOk,Con.size,Nat.mul_one]at hlen
  subst hlen
  have g:=l60 nl cap v o1
  unfold vok
  cases hx:aA v with
  |true=>
   rw[hx]at g
   have hb:(true&&decide ((v.length:Int)=4))=((v.length:Int)==4):=by
    rw[Bool.true_and];by_cases h:(v.length:Int)=4<;>simp[h]
   rw[hb]
   exact c8 t6 (fn:=f60) (lc:=[(0,⟨a6 f60 0,I60 nl cap v 0,.normal,X60 nl cap v⟩)]) (fuel:=100) (p:=[]) (o:=⟨_,_,true,[I60 nl cap v 0=I60 nl cap v 0]⟩)
    (by kernel_rfl) (by kernel_rfl) (by kernel_rfl) rfl (by simp) (fun cc hc=>aK.cons (c:=cc) (by cases hc;kernel_rfl) (by cases hc;exact g) aK.nil)
  |false=>
   rw[hx]at g
   exact c8 t6 (fn:=f60) (lc:=[(0,⟨a6 f60 0,I60 nl cap v 0,.ret,Y60 nl cap v⟩)]) (fuel:=100) (p:=[]) (o:=⟨_,_,true,[I60 nl cap v 0=I60 nl cap v 0]⟩)
    (by kernel_rfl) (by kernel_rfl) (by kernel_rfl) rfl (by simp) (fun cc hc=>aK.cons (c:=cc) (by cases hc;kernel_rfl) (by cases hc;exact g) aK.nil)
 ·cases he
end
section
def BS:aM:=fun args h=>
 match args,h with
 |[.c (.int .i64 n)],[]=>some (.c (.bool (!fok n)),[],[])
 |_,_=>none
theorem a7M:aQ Tryz.prog 250 BS:=by
 intro args h res h' o he ho
 unfold BS at he
 split at he
 ·rename_i n
  simp only[Option.some.injEq,Prod.mk.injEq]at he
  obtain⟨rfl,rfl,rfl⟩:=he
  have e:aE tt (a9 T6) [] 100 Tryz.f250 [.c (.int .i64 n)] [] []=some ⟨.c (.bool (!fok n)),[],true,[]⟩:=by kernel_rfl
  exact mo t6 e rfl
 ·cases he
def T7:List aZ:=[⟨113,[],HA⟩,⟨250,[],BS⟩]++T6
theorem e7:a7 Tryz.prog T7:=by
 refine a7.append ?_ e6
 intro e he
 simp only[List.mem_cons,List.not_mem_nil,or_false]at he
 rcases he with rfl|rfl
 ·exact m60
 ·exact a7M
theorem t7:bK Tryz.prog (a9 T7):=aO e7
def dM (q:Int→Bool) (v:List Int):Nat→Nat→Option Nat
 |0,_=>none
 |k+1,i=>bif q (v.getD i 0)then some i else dM q v k (i+1)
def eU (q:Int→Bool) (v:List Int):Option Nat:=dM q v v.length 0
def eD (q:Int→Bool) (v:List Int):Int:=match eU q v with|some j=>(j:Int)|none=> -1
noncomputable abbrev i4:=Tryz.f122
noncomputable def qM (nl:Option Bool) (cap:Option Nat) (v:List Int) (i:Int):St:=
 aR i4.ntmps [(0,.c (.view nl (.ints .i64 v) v.length 1 cap)),(1,.c (.fn 250 [])),(7,.c (.int .i64 v.length)),(8,.c (.int .i64 i))] []
noncomputable def QB:St:=aR i4.ntmps [] []
noncomputable def QE (i:Int):St:=aR i4.ntmps [(4,.c (.int .i64 i))] []
section
variable (nl : Option Bool) (cap : Option Nat) (v : List Int) (i : Int)
theorem SP:aC 0 (a6 i4 0) (a8 i4 0) (aD tt (a9 T7) [] 0 100 (a5 0 (a0 i4)) (qM nl cap v i) [(0,true),(0,true)])=
  some (.ret,(decide (i<v.length)&&(decide (0≤i)&&(decide (i<v.length)&&(decide (i.toNat<v.length)&&(!fok (v.getD i.toNat 0)&&true))))),[],QE i):=by kernel_rfl
theorem SQ:aC 0 (a6 i4 0) (a8 i4 0) (aD tt (a9 T7) [] 0 100 (a5 0 (a0 i4)) (qM nl cap v i) [(0,true),(0,false)])=
  some (.normal,(decide (i<v.length)&&(decide (0≤i)&&(decide (i<v.length)&&(decide (i.toNat<v.length)&&(!!fok (v.getD i.toNat 0)&&true))))),[],qM nl cap v (IntKind.i64.wrap (i+1))):=by kernel_rfl
theorem SR:aC 0 (a6 i4 0) (a8 i4 0) (aD tt (a9 T7) [] 0 100 (a5 0 (a0 i4)) (qM nl cap v i) [(0,false)])=
  some (.exit 0,(!decide (i<v.length)&&true),[],QB):=by kernel_rfl
end
noncomputable def YU:Option Nat→St
 |some j=>QE j
 |none=>QB
theorem a62 (nl:Option Bool) (cap:Option Nat) (v:List Int) (hl:v.length≤274877906944):
  aN none Tryz.prog 0 (.block 0 (.loop (a5 0 (a0 i4)))) (qM nl cap v 0) fun e t=>e=uW (eU (fun x=> !fok x) v)∧t=YU (eU (fun x=> !fok x) v):=by
 refine aN.roundsR (ro:=none) hT t7 bF (m:=0) (id:=0) (body:=a5 0 (a0 i4)) (α:=Nat)
  (fun i=>i≤v.length∧dM (fun x=> !fok x) v (v.length-i) i=eU (fun x=> !fok x) v) (fun i=>qM nl cap v i) (fun i=>v.length-i) (a6 i4 0) (a8 i4 0)
  (fun _=>uW (eU (fun x=> !fok x) v)) (fun _=>YU (eU (fun x=> !fok x) v)) (fun _=>[]) (fun _ _=>aK.nil) (fun i hx=> ?_) 0 ⟨by simp,rfl⟩
 obtain⟨h1,h3⟩:=hx
 by_cases hi:i<v.length
 ·have hk:v.length-i=(v.length-(i+1))+1:=by omega
  rw[hk]at h3
  simp only[dM]at h3
  cases hz:fok (v.getD i 0)with
  |true=>
   rw[hz]at h3
   refine⟨_,_,_,_,_,_,SQ nl cap v i, ?_,by simp,.inl ⟨rfl,i+1,⟨by omega,by simpa using h3⟩,by omega, ?_,rfl,rfl⟩⟩
   ·simp[-List.getD_eq_getElem?_getD,hi,hz]
   ·rw[aB (by omega) (by omega)];simp
  |false=>
   rw[hz]at h3
   simp only[Bool.not_false,cond_true]at h3
   refine⟨_,_,_,_,_,_,SP nl cap v i, ?_,by simp,.inr (.inr ⟨by simp,by simp, ?_, ?_⟩)⟩
   ·simp[-List.getD_eq_getElem?_getD,hi,hz]
   ·rw[←h3];rfl
   ·rw[←h3];rfl
 ·have hz:v.length-i=0:=by omega
  rw[hz]at h3
  simp only[dM]at h3
  exact⟨_,_,_,_,_,_,SR nl cap v i,by simp;omega,by simp,.inr (.inl ⟨rfl,by rw[←h3];rfl,by rw[←h3];rfl⟩)⟩
def wT:aM:=fun args h=>
 match args,h with
 |[.c (.view nl (.ints .i64 v) len 1 cap),.c (.fn 250 [])],[]=>some (.c (.int .i64 (eD (fun x=> !fok x) v)),[],[decide (v.length≤274877906944)])
 |_,_=>none
theorem a7N:aQ Tryz.prog 122 wT:=by
 intro args h res h' o he ho
 unfold wT at he
 split at he
 ·rename_i nl v len cap
  simp only[Option.some.injEq,Prod.mk.injEq]at he
  obtain⟨rfl,rfl,rfl⟩:=he
  have o1:v.length≤274877906944:=by simpa using ho
  refine bE.len ⟨i4,by kernel_rfl,by kernel_rfl,by kernel_rfl⟩ fun hlen=> ?_
  simp only[List.mem_cons,List.not_mem_nil,or_false,forall_eq_or_imp,forall_eq,AV.lenOk,aF.lenOk,Con.size,Nat.mul_one]at hlen
  obtain⟨rfl,-⟩:=hlen
  have g:=a62 nl cap v o1
  unfold eD
  cases hx:eU (fun x=> !fok x) v with
  |none=>
   rw[hx]at g
   exact c8 t7 (fn:=i4) (lc:=[(0,⟨a6 i4 0,qM nl cap v 0,.normal,QB⟩)]) (fuel:=100) (p:=[]) (o:=⟨_,_,true,[qM nl cap v 0=qM nl cap v 0]⟩)
    (by kernel_rfl) (by kernel_rfl) (by kernel_rfl) rfl (by simp) (fun cc hc=>aK.cons (c:=cc) (by cases hc;kernel_rfl) (by cases hc;exact g) aK.nil)
  |some j=>
   rw[hx]at g
   exact c8 t7 (fn:=i4) (lc:=[(0,⟨a6 i4 0,qM nl cap v 0,.ret,QE j⟩)]) (fuel:=100) (p:=[]) (o:=⟨_,_,true,[qM nl cap v 0=qM nl cap v 0]⟩)
    (by kernel_rfl) (by kernel_rfl) (by kernel_rfl) rfl (by simp) (fun cc hc=>aK.cons (c:=cc) (by cases hc;kernel_rfl) (by cases hc;exact g) aK.nil)
 ·cases he
end
section
def T8:List aZ:=[⟨122,[],wT⟩]++T7
theorem e8:a7 Tryz.prog T8:=by
 refine a7.append ?_ e7
 intro e he
 simp only[List.mem_cons,List.not_mem_nil,or_false]at he
 subst he;exact a7N
theorem t8:bK Tryz.prog (a9 T8):=aO e8
theorem zV (q:Int→Bool) (v:List Int): ∀k i,k=v.length-i→(match dM q v k i with|some j=>true|none=>false)=(v.drop i).any q
 |0,i,h=>by rw[List.drop_eq_nil_of_le (by omega)];rfl
 |k+1,i,h=>by
  have hi:i<v.length:=by omega
  rw[List.drop_eq_getElem_cons hi]
  simp only[dM,List.any_cons]
  have e:v.getD i 0=v[i]:=by rw[List.getD_eq_getElem?_getD,List.getElem?_eq_getElem hi];rfl
  rw[e]
  cases q v[i]with
  |true=>rfl
  |false=>rw[cond_false,zV q v k (i+1) (by omega),Bool.false_or]
theorem MN (v:List Int):decide (eD (fun x=> !fok x) v≥0)= !aA v:=by
 have h:=zV (fun x=> !fok x) v v.length 0 (by simp)
 have e:(v.drop 0).any (fun x=> !fok x)= !aA v:=by
  rw[List.drop_zero,aA,List.any_eq_not_all_not];simp
 rw[e]at h
 rw[←h]
 unfold eD eU
 cases dM (fun x=> !fok x) v v.length 0<;>simp
def rQ:aM:=fun args h=>
 match args,h with
 |[.c (.view nl (.ints .i64 v) len 1 cap),.c (.fn 250 [])],[]=>some (.c (.bool (!aA v)),[],[decide (v.length≤274877906944)])
 |_,_=>none
theorem a75:aQ Tryz.prog 68 rQ:=by
 intro args h res h' o he ho
 unfold rQ at he
 split at he
 ·rename_i nl v len cap
  simp only[Option.some.injEq,Prod.mk.injEq]at he
  obtain⟨rfl,rfl,rfl⟩:=he
  have e:aE tt (a9 T8) [] 100 Tryz.f68 [.c (.view nl (.ints .i64 v) len 1 cap),.c (.fn 250 [])] [] []=
    some ⟨.c (.bool (decide (eD (fun x=> !fok x) v≥0))),[],decide (v.length≤274877906944)&&true,[]⟩:=by kernel_rfl
  rw[MN]at e
  exact mo t8 e (by simpa using ho)
 ·cases he
def T9:List aZ:=[⟨68,[],rQ⟩]++T8
theorem e9:a7 Tryz.prog T9:=by
 refine a7.append ?_ e8
 intro e he
 simp only[List.mem_cons,List.not_mem_nil,or_false]at he
 subst he;exact a75
theorem t9:bK Tryz.prog (a9 T9):=aO e9
def aG (v:List Int) (n:Int):Bool:=aA v&&((v.length:Int)==n)
def GN:aM:=fun args h=>
 match args,h with
 |[.c (.view nl (.ints .i64 v) len 1 cap),.c (.int .i64 n)],[]=>some (.c (.bool (aG v n)),[],[decide (v.length≤274877906944)])
 |_,_=>none
theorem a72:aQ Tryz.prog 214 GN:=by
 intro args h res h' o he ho
 unfold GN at he
 split at he
 ·rename_i nl v len cap n
  simp only[Option.some.injEq,Prod.mk.injEq]at he
  obtain⟨rfl,rfl,rfl⟩:=he
  have o1:v.length≤274877906944:=by simpa using ho
  refine bE.len ⟨Tryz.f214,by kernel_rfl,by kernel_rfl,by kernel_rfl⟩ fun hlen=> ?_
  simp only[List.mem_cons,List.not_mem_nil,or_false,forall_eq_or_imp,forall_eq,AV.lenOk,aF.lenOk,Con.size,Nat.mul_one]at hlen
  obtain⟨rfl,-⟩:=hlen
  cases hc:((v.length:Int)==n)with
  |true=>
   have e:aE tt (a9 T9) [] 100 Tryz.f214 [.c (.view nl (.ints .i64 v) v.length 1 cap),.c (.int .i64 n)] [] [(0,true)]=
     some ⟨.c (.bool (bif (v.length:Int)==n then !!aA v else false)),[],((v.length:Int)==n)&&(((v.length:Int)==n)&&(decide (v.length≤274877906944)&&(((v.length:Int)==n)&&true))),[]⟩:=by kernel_rfl
   have hr:(bif (v.length:Int)==n then !!aA v else false)=aG v n:=by simp[aG,hc]
   rw[hr]at e
   exact mo t9 e (by simp[hc,o1])
  |false=>
   have e:aE tt (a9 T9) [] 100 Tryz.f214 [.c (.view nl (.ints .i64 v) v.length 1 cap),.c (.int .i64 n)] [] [(0,false)]=
     some ⟨.c (.bool false),[], !((v.length:Int)==n)&&(!((v.length:Int)==n)&&(!((v.length:Int)==n)&&(!((v.length:Int)==n)&&true))),[]⟩:=by kernel_rfl
   have hr:false=aG v n:=by simp[aG,hc]
   rw[hr]at e
   exact mo t9 e (by simp[hc])
 ·cases he
end
section
def T10:List aZ:=[⟨214,[],GN⟩]++T9
theorem e10:a7 Tryz.prog T10:=by
 refine a7.append ?_ e9
 intro e he
 simp only[List.mem_cons,List.not_mem_nil,or_false]at he
 subst he;exact a72
theorem t10:bK Tryz.prog (a9 T10):=aO e10
def ifI (b:Bool) (n:Int):Int:=bif b then n else 0
def UA (v:List Int) (b:Bool):AV:=
 .tup [.agg [.int .i64 (ifI b (v.getD 0 0)),.int .i64 (ifI b (v.getD 1 0)),.int .i64 (ifI b (v.getD 2 0)),.int .i64 (ifI b (v.getD 3 0))],.c (.bool b)]
def H9:aM:=fun args h=>
 match args,h with
 |[.c (.view nl (.ints .i64 v) len 1 cap)],[]=>some (UA v (aG v 4),[],[decide (v.length≤274877906944)])
 |_,_=>none
theorem a5O {v:List Int} (h:aG v 4=true): ∃a b c d,v=[a,b,c,d]:=by
 simp only[aG,Bool.and_eq_true,rpS,beq_iff_eq]at h
 have h4:v.length=4:=by omega
 match v,h4 with
 |[a,b,c,d],_=>exact⟨a,b,c,d,rfl⟩
theorem m67:aQ Tryz.prog 176 H9:=by
 intro args h res h' o he ho
 unfold H9 at he
 split at he
 ·rename_i nl v len cap
  simp only[Option.some.injEq,Prod.mk.injEq]at he
  obtain⟨rfl,rfl,rfl⟩:=he
  have o1:v.length≤274877906944:=by simpa using ho
  refine bE.len ⟨Tryz.f176,by kernel_rfl,by kernel_rfl,by kernel_rfl⟩ fun hlen=> ?_
  simp only[List.mem_cons,List.not_mem_nil,or_false,forall_eq,AV.lenOk,aF.lenOk,Con.size,Nat.mul_one]at hlen
  subst hlen
  cases hc:aG v 4 with
  |true=>
   obtain⟨a,b,c,d,rfl⟩:=a5O hc
   have e:aE tt (a9 T10) [] 100 Tryz.f176 [.c (.view nl (.ints .i64 [a,b,c,d]) [a,b,c,d].length 1 cap)] [] [(0,false)]=
     some ⟨UA [a,b,c,d] true,[], !!aG [a,b,c,d] 4&&true,[]⟩:=by kernel_rfl
   exact mo t10 e (by simp[hc])
  |false=>
   have e:aE tt (a9 T10) [] 100 Tryz.f176 [.c (.view nl (.ints .i64 v) v.length 1 cap)] [] [(0,true)]=
     some ⟨UA v false,[],decide (v.length≤274877906944)&&(!aG v 4&&true),[]⟩:=by kernel_rfl
   exact mo t10 e (by simp[hc,o1])
 ·cases he
def xF:aM:=fun args h=>
 match args,h with
 |[.c (.view nl (.ints .i64 v) len 1 cap)],[]=>some (.c (.bool (aG v 4)),[],[decide (v.length≤274877906944)])
 |_,_=>none
theorem m91:aQ Tryz.prog 225 xF:=by
 intro args h res h' o he ho
 unfold xF at he
 split at he
 ·rename_i nl v len cap
  simp only[Option.some.injEq,Prod.mk.injEq]at he
  obtain⟨rfl,rfl,rfl⟩:=he
  have e:aE tt (a9 T10) [] 100 Tryz.f225 [.c (.view nl (.ints .i64 v) len 1 cap)] [] []=some ⟨.c (.bool (aG v 4)),[],decide (v.length≤274877906944)&&true,[]⟩:=by kernel_rfl
  exact mo t10 e (by simpa using ho)
 ·cases he
end
section
def T11:List aZ:=[⟨176,[],H9⟩,⟨225,[],xF⟩]++T10
theorem e11:a7 Tryz.prog T11:=by
 refine a7.append ?_ e10
 intro e he
 simp only[List.mem_cons,List.not_mem_nil,or_false]at he
 rcases he with rfl|rfl
 ·exact m67
 ·exact m91
theorem t11:bK Tryz.prog (a9 T11):=aO e11
def cO (k:Int) (v:List Int) (j:Int):Int:=
 CS ((aH k j).getD 0 0) ((aH k j).getD 1 0) ((aH k j).getD 2 0) ((aH k j).getD 3 0) (v.getD 0 0) (v.getD 1 0) (v.getD 2 0) (v.getD 3 0)
def lC (k:Int) (v:List Int):List Int:=[cO k v 0,cO k v 1,cO k v 2,cO k v 3,cO k v 4,cO k v 5,cO k v 6,cO k v 7]
def GO:aM:=fun args h=>
 match args,h with
 |[.c (.int .i64 k),.agg [.int .i64 a,.int .i64 b,.int .i64 c,.int .i64 d]],[]=>some (.c (.sl 0 0 8 1 none),[.live (.ints .i64 (lC k [a,b,c,d]))],[bet k 1 2,fok a,fok b,fok c,fok d])
 |_,_=>none
theorem two {k:Int} (h:bet k 1 2=true):k=1∨k=2:=by
 simp only[bet,Bool.and_eq_true,rpS,decide_eq_true_eq]at h;omega
theorem m74:aQ Tryz.prog 182 GO:=by
 intro args h res h' o he ho
 unfold GO at he
 split at he
 ·rename_i k a b c d
  simp only[Option.some.injEq,Prod.mk.injEq]at he
  obtain⟨rfl,rfl,rfl⟩:=he
  simp only[List.mem_cons,List.not_mem_nil,or_false,forall_eq_or_imp,forall_eq]at ho
  rcases two ho.1 with rfl|rfl
  ·skip
   have e:aE tt (a9 T11) [] 1000 Tryz.f182 [.c (.int .i64 1),.agg [.int .i64 a,.int .i64 b,.int .i64 c,.int .i64 d]] [] []=
     some ⟨.c (.sl 0 0 8 1 none),[.live (.ints .i64 (lC 1 [a,b,c,d]))],(fok a&&(fok b&&(fok c&&(fok d&&(fok a&&(fok b&&(fok c&&(fok d&&(fok a&&(fok b&&(fok c&&(fok d&&(fok a&&(fok b&&(fok c&&(fok d&&(fok a&&(fok b&&(fok c&&(fok d&&(fok a&&(fok b&&(fok c&&(fok d&&(fok a&&(fok b&&(fok c&&(fok d&&(fok a&&(fok b&&(fok c&&(fok d&&true)))))))))))))))))))))))))))))))),[]⟩:=by kernel_rfl
   exact mo t11 e (by simp[ho])
  ·skip
   have e:aE tt (a9 T11) [] 1000 Tryz.f182 [.c (.int .i64 2),.agg [.int .i64 a,.int .i64 b,.int .i64 c,.int .i64 d]] [] []=
     some ⟨.c (.sl 0 0 8 1 none),[.live (.ints .i64 (lC 2 [a,b,c,d]))],(fok a&&(fok b&&(fok c&&(fok d&&(fok a&&(fok b&&(fok c&&(fok d&&(fok a&&(fok b&&(fok c&&(fok d&&(fok a&&(fok b&&(fok c&&(fok d&&(fok a&&(fok b&&(fok c&&(fok d&&(fok a&&(fok b&&(fok c&&(fok d&&(fok a&&(fok b&&(fok c&&(fok d&&(fok a&&(fok b&&(fok c&&(fok d&&true)))))))))))))))))))))))))))))))),[]⟩:=by kernel_rfl
   exact mo t11 e (by simp[ho])
 ·cases he
end
section
def PR:aM:=fun args h=>
 match args,h with
 |[.c (.int .i64 n)],[]=>some (.c (.bool (n !=0)),[],[])
 |_,_=>none
theorem a8D:aQ Tryz.prog 285 PR:=by
 intro args h res h' o he ho
 unfold PR at he
 split at he
 ·rename_i n
  simp only[Option.some.injEq,Prod.mk.injEq]at he
  obtain⟨rfl,rfl,rfl⟩:=he
  have e:aE tt (a9 T11) [] 100 Tryz.f285 [.c (.int .i64 n)] [] []=some ⟨.c (.bool (n !=0)),[],true,[]⟩:=by kernel_rfl
  exact mo t11 e rfl
 ·cases he
def rV:aM:=fun args h=>
 match args,h with
 |[.agg [.int .i64 a,.int .i64 b,.int .i64 c,.int .i64 d],.agg [.int .i64 x,.int .i64 y,.int .i64 z,.int .i64 t]],[]=>
  some (.agg [.int .i64 ((a+x*30%31)%31),.int .i64 ((b+y*30%31)%31),.int .i64 ((c+z*30%31)%31),.int .i64 ((d+t*30%31)%31)],[],[fok a,fok x,fok b,fok y,fok c,fok z,fok d,fok t])
 |_,_=>none
def T12:List aZ:=[⟨182,[],GO⟩,⟨285,[],PR⟩]++T11
theorem e12:a7 Tryz.prog T12:=by
 refine a7.append ?_ e11
 intro e he
 simp only[List.mem_cons,List.not_mem_nil,or_false]at he
 rcases he with rfl|rfl
 ·exact m74
 ·exact a8D
theorem t12:bK Tryz.prog (a9 T12):=aO e12
theorem a82:aQ Tryz.prog 258 rV:=by
 intro args h res h' o he ho
 unfold rV at he
 split at he
 ·rename_i a b c d x y z t
  simp only[Option.some.injEq,Prod.mk.injEq]at he
  obtain⟨rfl,rfl,rfl⟩:=he
  have e:aE tt (a9 T12) [] 100 Tryz.f258 [.agg [.int .i64 a,.int .i64 b,.int .i64 c,.int .i64 d],.agg [.int .i64 x,.int .i64 y,.int .i64 z,.int .i64 t]] [] []=
   some ⟨.agg [.int .i64 ((a+x*30%31)%31),.int .i64 ((b+y*30%31)%31),.int .i64 ((c+z*30%31)%31),.int .i64 ((d+t*30%31)%31)],[],
    (fok x&&(fok y&&(fok z&&(fok t&&(fok a&&(fok (x*30%31)&&(fok b&&(fok (y*30%31)&&(fok c&&(fok (z*30%31)&&(fok d&&(fok (t*30%31)&&true)))))))))))),[]⟩:=by kernel_rfl
  simp only[List.mem_cons,List.not_mem_nil,or_false,forall_eq_or_imp,forall_eq]at ho
  exact mo t12 e (by simp[ho,c9])
 ·cases he
end
section
def T13:List aZ:=[⟨258,[],rV⟩]++T12
theorem e13:a7 Tryz.prog T13:=by
 refine a7.append ?_ e12
 intro e he
 simp only[List.mem_cons,List.not_mem_nil,or_false]at he
 subst he;exact a82
theorem t13:bK Tryz.prog (a9 T13):=aO e13
noncomputable abbrev f183:=Tryz.f284
noncomputable def qO (nl:Option Bool) (cap:Option Nat) (v:List Int) (i:Int):St:=
 aR f183.ntmps [(0,.c (.view nl (.ints .i64 v) v.length 1 cap)),(1,.c (.fn 285 [])),(7,.c (.int .i64 v.length)),(8,.c (.int .i64 i))] []
noncomputable def QD:St:=aR f183.ntmps [] []
noncomputable def QG (i:Int):St:=aR f183.ntmps [(4,.c (.int .i64 i))] []
section
variable (nl : Option Bool) (cap : Option Nat) (v : List Int) (i : Int)
theorem TM:aC 0 (a6 f183 0) (a8 f183 0) (aD tt (a9 T13) [] 0 100 (a5 0 (a0 f183)) (qO nl cap v i) [(0,true),(0,true)])=
  some (.ret,(decide (i<v.length)&&(decide (0≤i)&&(decide (i<v.length)&&(decide (i.toNat<v.length)&&((v.getD i.toNat 0 !=0)&&true))))),[],QG i):=by kernel_rfl
theorem TN:aC 0 (a6 f183 0) (a8 f183 0) (aD tt (a9 T13) [] 0 100 (a5 0 (a0 f183)) (qO nl cap v i) [(0,true),(0,false)])=
  some (.normal,(decide (i<v.length)&&(decide (0≤i)&&(decide (i<v.length)&&(decide (i.toNat<v.length)&&(!(v.getD i.toNat 0 !=0)&&true))))),[],qO nl cap v (IntKind.i64.wrap (i+1))):=by kernel_rfl
theorem TO:aC 0 (a6 f183 0) (a8 f183 0) (aD tt (a9 T13) [] 0 100 (a5 0 (a0 f183)) (qO nl cap v i) [(0,false)])=
  some (.exit 0,(!decide (i<v.length)&&true),[],QD):=by kernel_rfl
end
noncomputable def YW:Option Nat→St
 |some j=>QG j
 |none=>QD
theorem a6C (nl:Option Bool) (cap:Option Nat) (v:List Int) (hl:v.length≤274877906944):
  aN none Tryz.prog 0 (.block 0 (.loop (a5 0 (a0 f183)))) (qO nl cap v 0) fun e t=>e=uW (eU (fun x=>x !=0) v)∧t=YW (eU (fun x=>x !=0) v):=by
 refine aN.roundsR (ro:=none) hT t13 bF (m:=0) (id:=0) (body:=a5 0 (a0 f183)) (α:=Nat)
  (fun i=>i≤v.length∧dM (fun x=>x !=0) v (v.length-i) i=eU (fun x=>x !=0) v) (fun i=>qO nl cap v i) (fun i=>v.length-i) (a6 f183 0) (a8 f183 0)
  (fun _=>uW (eU (fun x=>x !=0) v)) (fun _=>YW (eU (fun x=>x !=0) v)) (fun _=>[]) (fun _ _=>aK.nil) (fun i hx=> ?_) 0 ⟨by simp,rfl⟩
 obtain⟨h1,h3⟩:=hx
 by_cases hi:i<v.length
 ·have hk:v.length-i=(v.length-(i+1))+1:=by omega
  rw[hk]at h3
  simp only[dM]at h3
  cases hz:(v.getD i 0 !=0)with
  |false=>
   rw[hz]at h3
   refine⟨_,_,_,_,_,_,TN nl cap v i, ?_,by simp,.inl ⟨rfl,i+1,⟨by omega,by simpa using h3⟩,by omega, ?_,rfl,rfl⟩⟩
   ·rw[Int.toNat_natCast,hz];simp[hi]
   ·rw[aB (by omega) (by omega)];simp
  |true=>
   rw[hz]at h3
   simp only[cond_true]at h3
   refine⟨_,_,_,_,_,_,TM nl cap v i, ?_,by simp,.inr (.inr ⟨by simp,by simp, ?_, ?_⟩)⟩
   ·rw[Int.toNat_natCast,hz];simp[hi]
   ·rw[←h3];rfl
   ·rw[←h3];rfl
 ·have hz:v.length-i=0:=by omega
  rw[hz]at h3
  simp only[dM]at h3
  exact⟨_,_,_,_,_,_,TO nl cap v i,by simp;omega,by simp,.inr (.inl ⟨rfl,by rw[←h3];rfl,by rw[←h3];rfl⟩)⟩
def wR:aM:=fun args h=>
 match args,h with
 |[.c (.view nl (.ints .i64 v) len 1 cap),.c (.fn 285 [])],[]=>some (.c (.int .i64 (eD (fun x=>x !=0) v)),[],[decide (v.length≤274877906944)])
 |_,_=>none
theorem a8C:aQ Tryz.prog 284 wR:=by
 intro args h res h' o he ho
 unfold wR at he
 split at he
 ·rename_i nl v len cap
  simp only[Option.some.injEq,Prod.mk.injEq]at he
  obtain⟨rfl,rfl,rfl⟩:=he
  have o1:v.length≤274877906944:=by simpa using ho
  refine bE.len ⟨f183,by kernel_rfl,by kernel_rfl,by kernel_rfl⟩ fun hlen=> ?_
  simp only[List.mem_cons,List.not_mem_nil,or_false,forall_eq_or_imp,forall_eq,AV.lenOk,aF.lenOk,Con.size,Nat.mul_one]at hlen
  obtain⟨rfl,-⟩:=hlen
  have g:=a6C nl cap v o1
  unfold eD
  cases hx:eU (fun x=>x !=0) v with
  |none=>
   rw[hx]at g
   exact c8 t13 (fn:=f183) (lc:=[(0,⟨a6 f183 0,qO nl cap v 0,.normal,QD⟩)]) (fuel:=100) (p:=[]) (o:=⟨_,_,true,[qO nl cap v 0=qO nl cap v 0]⟩)
    (by kernel_rfl) (by kernel_rfl) (by kernel_rfl) rfl (by simp) (fun cc hc=>aK.cons (c:=cc) (by cases hc;kernel_rfl) (by cases hc;exact g) aK.nil)
  |some j=>
   rw[hx]at g
   exact c8 t13 (fn:=f183) (lc:=[(0,⟨a6 f183 0,qO nl cap v 0,.ret,QG j⟩)]) (fuel:=100) (p:=[]) (o:=⟨_,_,true,[qO nl cap v 0=qO nl cap v 0]⟩)
    (by kernel_rfl) (by kernel_rfl) (by kernel_rfl) rfl (by simp) (fun cc hc=>aK.cons (c:=cc) (by cases hc;kernel_rfl) (by cases hc;exact g) aK.nil)
 ·cases he
def T14:List aZ:=[⟨284,[],wR⟩]++T13
theorem e14:a7 Tryz.prog T14:=by
 refine a7.append ?_ e13
 intro e he
 simp only[List.mem_cons,List.not_mem_nil,or_false]at he
 subst he;exact a8C
theorem t14:bK Tryz.prog (a9 T14):=aO e14
def xG:aM:=fun args h=>
 match args,h with
 |[.agg [.int .i64 a,.int .i64 b,.int .i64 c,.int .i64 d]],[]=>some (.c (.int .i64 (eD (fun x=>x !=0) [a,b,c,d])),[],[])
 |_,_=>none
theorem a81:aQ Tryz.prog 257 xG:=by
 intro args h res h' o he ho
 unfold xG at he
 split at he
 ·rename_i a b c d
  simp only[Option.some.injEq,Prod.mk.injEq]at he
  obtain⟨rfl,rfl,rfl⟩:=he
  have e:aE tt (a9 T14) [] 100 Tryz.f257 [.agg [.int .i64 a,.int .i64 b,.int .i64 c,.int .i64 d]] [] []=some ⟨.c (.int .i64 (eD (fun x=>x !=0) [a,b,c,d])),[],true,[]⟩:=by kernel_rfl
  exact mo t14 e rfl
 ·cases he
end
section
def T15:List aZ:=[⟨257,[],xG⟩]++T14
theorem e15:a7 Tryz.prog T15:=by
 refine a7.append ?_ e14
 intro e he
 simp only[List.mem_cons,List.not_mem_nil,or_false]at he
 subst he;exact a81
theorem t15:bK Tryz.prog (a9 T15):=aO e15
def AJ (k a:Int):List Int:=[(aH k a).getD 0 0,(aH k a).getD 1 0,(aH k a).getD 2 0,(aH k a).getD 3 0]
def j7 (k:Int) (v:List Int):Nat→Nat→List Int
 |0,_=>[]
 |m+1,i=>AJ k (v.getD i 0)++j7 k v m (i+1)
def fY (k:Int) (v:List Int):List Int:=j7 k v v.length 0
def bC (v:List Int):Bool:=v.all fun a=>bet a 0 7
theorem d8 {v:List Int} (h:bC v=true) {i:Nat} (hi:i<v.length):bet (v.getD i 0) 0 7=true:=by
 rw[List.getD_eq_getElem?_getD,List.getElem?_eq_getElem hi]
 exact List.all_eq_true.1 h _ (List.getElem_mem hi)
noncomputable abbrev f160:=Tryz.f255
noncomputable def yP (nl:Option Bool) (cap:Option Nat) (k:Int) (v:List Int) (i:Int) (n:Nat) (out:List Int):St:=
 aR f160.ntmps [(0,.c (.int .i64 k)),(5,.c (.sl 0 0 n 4 none)),(11,.c (.view nl (.ints .i64 v) v.length 1 cap)),(12,.c (.int .i64 v.length)),(13,.c (.int .i64 i))] [.live (.ints .i64 out)]
noncomputable def LN (n:Nat) (out:List Int):St:=aR f160.ntmps [(5,.c (.sl 0 0 n 4 none))] [.live (.ints .i64 out)]
section
variable (nl : Option Bool) (cap : Option Nat) (k : Int) (v : List Int) (i : Int) (n : Nat) (out : List Int)
theorem T4:aC 0 (a6 f160 0) (a8 f160 0) (aD tt (a9 T15) [] 0 100 (a5 0 (a0 f160)) (yP nl cap k v i n out) [(0,true)])=
  some (.normal,(decide (i<v.length)&&(decide (0≤i)&&(decide (i<v.length)&&(decide (i.toNat<v.length)&&(bet k 1 2&&(bet (v.getD i.toNat 0) 0 7&&(decide (ix n 4 0=out.length)&&(decide (n+1≤274877906944)&&true)))))))),[],
   yP nl cap k v (IntKind.i64.wrap (i+1)) (n+1) (out++AJ k (v.getD i.toNat 0))):=by kernel_rfl
theorem TA:aC 0 (a6 f160 0) (a8 f160 0) (aD tt (a9 T15) [] 0 100 (a5 0 (a0 f160)) (yP nl cap k v i n out) [(0,false)])=
  some (.exit 0,(!decide (i<v.length)&&true),[],LN n out):=by kernel_rfl
end
theorem a67 (nl:Option Bool) (cap:Option Nat) (k:Int) (v:List Int) (hl:v.length≤274877906944) (hk:bet k 1 2=true) (hv:bC v=true):
  aN none Tryz.prog 0 (.block 0 (.loop (a5 0 (a0 f160)))) (yP nl cap k v 0 0 []) fun e t=>e=.normal∧t=LN v.length (fY k v):=by
 refine aN.roundsN (ro:=none) hT t15 bF (m:=0) (id:=0) (body:=a5 0 (a0 f160)) (α:=Nat×List Int)
  (fun x=>x.1≤v.length∧x.2.length=x.1*4∧x.2++j7 k v (v.length-x.1) x.1=fY k v) (fun x=>yP nl cap k v x.1 x.1 x.2) (fun x=>v.length-x.1) (a6 f160 0) (a8 f160 0)
  (fun _=>LN v.length (fY k v)) (fun _=>[]) (fun _ _=>aK.nil) (fun x hx=> ?_) (0,[]) ⟨by simp,rfl,rfl⟩
 obtain⟨i,out⟩:=x
 obtain⟨h1,h2,h3⟩:=hx
 dsimp only at h1 h2 h3⊢
 by_cases hi:i<v.length
 ·have hkk:v.length-i=(v.length-(i+1))+1:=by omega
  rw[hkk]at h3
  simp only[j7]at h3
  refine⟨_,_,_,_,_,_,T4 nl cap k v i i out, ?_,by simp,.inl ⟨rfl,(i+1,out++AJ k (v.getD i 0)),⟨by omega,by simp[h2,AJ];omega,by simpa using h3⟩,by dsimp only;omega, ?_,rfl⟩⟩
  ·rw[Int.toNat_natCast,hk,d8 hv hi,dF];simp;omega
  ·rw[aB (by omega) (by omega),Int.toNat_natCast];simp
 ·have hz:v.length-i=0:=by omega
  rw[hz]at h3
  simp only[j7,List.append_nil]at h3
  have e:i=v.length:=by omega
  exact⟨_,_,_,_,_,_,TA nl cap k v i i out,by simp;omega,by simp,.inr ⟨rfl,by rw[←h3,e]⟩⟩
def BZ:aM:=fun args h=>
 match args,h with
 |[.c (.int .i64 k),.c (.view nl (.ints .i64 v) len 1 cap)],[]=>
  some (.c (.sl 0 0 v.length 4 none),[.live (.ints .i64 (fY k v))],[decide (v.length≤274877906944),bet k 1 2,bC v])
 |_,_=>none
theorem a7Z:aQ Tryz.prog 255 BZ:=by
 intro args h res h' o he ho
 unfold BZ at he
 split at he
 ·rename_i k nl v len cap
  simp only[Option.some.injEq,Prod.mk.injEq]at he
  obtain⟨rfl,rfl,rfl⟩:=he
  simp only[List.mem_cons,List.not_mem_nil,or_false,forall_eq_or_imp,forall_eq,decide_eq_true_eq]at ho
  obtain⟨o1,o2,o3⟩:=ho
  refine bE.len ⟨f160,by kernel_rfl,by kernel_rfl,by kernel_rfl⟩ fun hlen=> ?_
  simp only[List.mem_cons,List.not_mem_nil,or_false,forall_eq_or_imp,forall_eq,AV.lenOk,aF.lenOk,Con.size,Nat.mul_one]at hlen
  obtain⟨-,rfl⟩:=hlen
  exact c8 t15 (fn:=f160) (lc:=[(0,⟨a6 f160 0,yP nl cap k v 0 0 [],.normal,LN v.length (fY k v)⟩)]) (fuel:=100) (p:=[])
   (o:=⟨_,_,decide (0≤(v.length:Int))&&(decide ((v.length:Int)≤274877906944)&&true),[yP nl cap k v 0 0 []=yP nl cap k v 0 0 []]⟩)
   (by kernel_rfl) (by kernel_rfl) (by kernel_rfl) (by simp;omega) (by simp) (fun cc hc=>aK.cons (c:=cc) (by cases hc;kernel_rfl) (by cases hc;exact a67 nl cap k v o1 o2 o3) aK.nil)
 ·cases he
end
section
def A4 (es len n:Nat):Nat:=match es with
 |1=>n
 |_=>len
theorem FG (es len n:Nat):A4 es (A4 es len n) n=A4 es len n:=by
 unfold A4;split<;>simp
theorem ED {es len n:Nat} (h:len*es=n):A4 es len n=len:=by
 unfold A4;split<;>omega
def aF.norm:aF→aF
 |.view _ c len es _=> .view none c (A4 es len c.size) es none
 |x=>x
def bA:List aF→List aF
 |[]=>[]
 |x::r=>x.norm::bA r
def AV.norm:AV→AV
 |.c x=> .c x.norm
 |.agg cs=> .agg (bA cs)
 |x=>x
def b8:List AV→List AV
 |[]=>[]
 |x::r=>x.norm::b8 r
theorem aF.norm_norm (x:aF):x.norm.norm=x.norm:=by
 cases x<;>simp[aF.norm,FG]
theorem qC: ∀l:List aF,bA (bA l)=bA l
 |[]=>rfl
 |x::r=>by simp[bA,aF.norm_norm,qC r]
theorem AV.norm_norm (x:AV):x.norm.norm=x.norm:=by
 cases x<;>simp[AV.norm,aF.norm_norm,qC]
theorem qB: ∀l:List AV,b8 (b8 l)=b8 l
 |[]=>rfl
 |x::r=>by simp[b8,AV.norm_norm,qB r]
theorem oZ: ∀l:List aF,(bA l).length=l.length
 |[]=>rfl
 |x::r=>by simp[bA,oZ r]
theorem oY: ∀l:List AV,(b8 l).length=l.length
 |[]=>rfl
 |x::r=>by simp[b8,oY r]
theorem tM: ∀(l:List aF) (i:Nat),(bA l).getD i .any=(l.getD i .any).norm
 |[],i=>by simp[bA,aF.norm]
 |x::r,0=>by simp[bA]
 |x::r,i+1=>by simpa [bA]using tM r i
theorem tL: ∀(l:List AV) (i:Nat),(b8 l).getD i .any=(l.getD i .any).norm
 |[],i=>by simp[b8,AV.norm]
 |x::r,0=>by simp[b8]
 |x::r,i+1=>by simpa [b8]using tL r i
theorem CR0.norm {w:World} {L:Nat→Prop} {ρ:Rho} {c:aF} {v:Value} (h:CR0 w L ρ c v):CR0 w L ρ c.norm v:=by
 have h0:=h
 cases h with
 |view nl c len es cap b base k u hl hc hu hz hk hcap hnl=>
  simp only[aF.norm]
  rw[ED hz]
  exact .view none _ _ _ none b base k u hl hc hu hz hk (fun _ h=>by cases h) (fun _ h=>by cases h)
 |viewNone nl c es cap a k hz hcap hnl hk=>
  simp only[aF.norm]
  rw[ED (by rw[hz];simp)]
  exact .viewNone none c es none a k hz (fun _ h=>by cases h) (fun _ h=>by cases h) hk
 |_=>exact h0
theorem AVR.norm {X:Nat→Prop} {w:World} {ρ:Rho} {x:AV} {v:Value} (h:AVR X w ρ x v):AVR X w ρ x.norm v:=by
 cases h with
 |any=>exact .any v
 |c x v h=>exact .c _ _ (CR0.norm h)
 |agg cs vs hs h=>
  exact .agg _ _ (by rw[oZ];exact hs) fun i hi=>by
   rw[oZ]at hi;rw[tM];exact CR0.norm (h i hi)
 |tup l vs hs h=>exact .tup l vs hs h
def nm (G:aM):aM:=fun args h=>G (b8 args) h
def aS (P:Program) (f:FuncId) (G:aM):Prop:= ∀args h res h' o,b8 args=args→G args h=some (res,h',o)→(∀b∈o,b=true)→bE P f args h res h'
theorem aS.ok {P:Program} {f:FuncId} {G:aM} (hg:aS P f G):aQ P f (nm G):=by
 intro args h res h' o he ho
 have hm:=hg (b8 args) h res h' o (qB args) he ho
 refine⟨hm.1,fun {X w0 ρ0} m vs hl hv=>hm.2 m vs (by rw[oY];exact hl) fun q hq=> ?_⟩
 rw[oY]at hq
 rw[tL]
 exact(hv q hq).norm
mutual
def vwA (get:Get):AV→Option (AV×List Bool)
 |.any=>some (.any,[])
 |.c x=>(froz get x).map fun(y,_,o)=>(.c y,o)
 |.agg cs=>(eM get cs).map fun(y,_,o)=>(.agg y,o)
 |.tup vs=>(vwT get vs).map fun(y,o)=>(.tup y,o)
def vwT (get:Get):List AV→Option (List AV×List Bool)
 |[]=>some ([],[])
 |x::r=>match vwA get x,vwT get r with
  |some (y,o),some (ys,o')=>some (y::ys,o++o')
  |_,_=>none
end
section
variable {X : Nat → Prop} {w0 w : World} {h : List aU} {ρ ρ0 : Rho} (m : Mem X w0 (b9 ρ0) h ρ w) (hun : ∀ id, ρ0 id = .unborn)
include m hun
theorem vW {x y:aF} {s:List (Nat×aU)} {o:List Bool} {v:Value} (hf:froz (Heap.get h) x=some (y,s,o)) (ho: ∀b∈o,b=true) (hx:CR X w ρ x v):CR X w ρ0 y v:=by
 have hnl: ∀b, ¬b9 ρ0 b:=fun b ⟨id,h⟩=>by rw[hun id]at h;cases h
 have mb2:cX w (fun b=>b9 ρ b∨X b) w (fun b=>b9 ρ0 b∨X b):=⟨fun _ _ _=>rfl,fun _ _=>rfl,Nat.le_refl _,fun b hb=> .inl (hb.elim (fun h=>absurd h (hnl b)) .inr)⟩
 unfold froz at hf
 split at hf
 ·rename_i id len es cap
  split at hf
  ·rename_i c hs
   cases hfr:c.free with
   |false=>rw[hfr]at hf;cases hf
   |true=>
    rw[hfr]at hf
    injection hf with hf;injection hf with e1 e2;injection e2 with e2 e3;subst e1 e2 e3
    have hz:len*es=c.size:=by simpa [dF]using ho _ (List.mem_singleton.2 rfl)
    rcases dQ m hs hx with⟨b,k,ty,n,hb,rfl,⟨cs,ty',hrow,hsz,hcs⟩,hsh,hn,hl',hcap⟩|⟨a,rfl,rfl,hcap⟩
    ·rw[Nat.zero_mul]
     refine .view none c len es cap b 0 k (fun q=>cs.getD q undef) (fun _ h=> ?_) (fun q hq=> ?_) (fun q hq=>((hcs q hq).free (eL hfr q)).mono mb2 (cA.noIds _)) hz hl' hcap (fun _ h=>by cases h)
     ·rcases h with h|h
      ·exact hnl b h
      ·exact m.notX hb h
     ·have hq':q<cs.size:=by omega
      simp[World.cell?,hrow,Array.getD,hq']
    ·exact .viewNone none c es cap a 0 (by omega) hcap (fun _ h=>by cases h) (fun _=>rfl)
  ·cases hf
 ·cases hf
 ·cases hf
 ·cases hf
 ·rename_i h1 h2 h3 h4
  injection hf with hf;injection hf with e1 e2;subst e1
  refine CR0.lift ((CR0.free hx ?_).mono mb2 (cA.refl _))
  cases x<;>first|rfl|skip
  ·exact absurd rfl (h3 _ _ _ _)
  ·exact absurd rfl (h2 _ _ _ _ _)
  ·rename_i f caps
   cases caps with
   |nil=>rfl
   |cons x r=>exact absurd rfl (h4 _ _ _)
theorem n8: ∀ {l l':List aF} {s:List (Nat×aU)} {o:List Bool} (f:Nat→Value),eM (Heap.get h) l=some (l',s,o)→(∀b∈o,b=true)→(∀i,i<l.length→CR X w ρ (l.getD i .any) (f i))→
  l'.length=l.length∧ ∀i,i<l.length→CR X w ρ0 (l'.getD i .any) (f i)
 |[],l',s,o,f,hf,_,_=>by
  injection hf with hf;injection hf with h1 h2;subst h1
  exact⟨rfl,fun q hq=>by simp at hq⟩
 |x::r,l',s,o,f,hf,ho,hx=>by
  simp only[eM]at hf
  split at hf
  ·rename_i y s1 o1 ys s2 o2 e1 e2
   injection hf with hf;injection hf with h1 h2;injection h2 with h2 h3;subst h1 h2 h3
   obtain⟨g1,g2⟩:=n8 (fun q=>f (q+1)) e2 (fun b hb=>ho b (List.mem_append_right _ hb)) (fun q hq=>by simpa using hx (q+1) (by simpa using hq))
   refine⟨by simp[g1],fun q hq=> ?_⟩
   cases q with
   |zero=>simpa using vW m hun e1 (fun b hb=>ho b (List.mem_append_left _ hb)) (by simpa using hx 0 (by simp))
   |succ q=>simpa using g2 q (by simpa using hq)
  ·cases hf
mutual
theorem BC: ∀ {x y:AV} {o:List Bool} {v:Value},vwA (Heap.get h) x=some (y,o)→(∀b∈o,b=true)→AVR X w ρ x v→AVR X w ρ0 y v
 |.any,y,o,v,hf,ho,hx=>by
  simp only[vwA,Option.some.injEq,Prod.mk.injEq]at hf
  obtain⟨rfl,rfl⟩:=hf;exact .any v
 |.c x,y,o,v,hf,ho,hx=>by
  simp only[vwA]at hf
  obtain⟨⟨y',s,o'⟩,h1,h2⟩:=Option.map_eq_some_iff.1 hf
  simp only[Prod.mk.injEq]at h2
  obtain⟨rfl,rfl⟩:=h2
  cases hx with
  |c x v hx=>exact .c _ _ (vW m hun h1 ho hx)
 |.agg cs,y,o,v,hf,ho,hx=>by
  simp only[vwA]at hf
  obtain⟨⟨y',s,o'⟩,h1,h2⟩:=Option.map_eq_some_iff.1 hf
  simp only[Prod.mk.injEq]at h2
  obtain⟨rfl,rfl⟩:=h2
  cases hx with
  |agg cs vs hs hx=>
   obtain⟨g1,g2⟩:=n8 m hun (fun i=>vs.getD i undef) h1 ho hx
   exact .agg _ _ (by rw[g1];exact hs) fun i hi=>g2 i (by rw[←g1];exact hi)
 |.tup l,y,o,v,hf,ho,hx=>by
  simp only[vwA]at hf
  obtain⟨⟨y',o'⟩,h1,h2⟩:=Option.map_eq_some_iff.1 hf
  simp only[Prod.mk.injEq]at h2
  obtain⟨rfl,rfl⟩:=h2
  cases hx with
  |tup l vs hs hx=>
   obtain⟨g1,g2⟩:=BD (fun i=>vs.getD i undef) h1 ho hx
   exact .tup _ _ (by rw[g1];exact hs) fun i hi=>g2 i (by rw[←g1];exact hi)
theorem BD: ∀ {l l':List AV} {o:List Bool} (f:Nat→Value),vwT (Heap.get h) l=some (l',o)→(∀b∈o,b=true)→(∀i,i<l.length→AVR X w ρ (l.getD i (.tup [])) (f i))→
  l'.length=l.length∧ ∀i,i<l.length→AVR X w ρ0 (l'.getD i (.tup [])) (f i)
 |[],l',o,f,hf,_,_=>by
  simp only[vwT,Option.some.injEq,Prod.mk.injEq]at hf
  obtain⟨rfl,rfl⟩:=hf
  exact⟨rfl,fun q hq=>by simp at hq⟩
 |x::r,l',o,f,hf,ho,hx=>by
  simp only[vwT]at hf
  split at hf
  ·rename_i y o1 ys o2 e1 e2
   injection hf with hf;injection hf with h1 h2;subst h1 h2
   obtain⟨g1,g2⟩:=BD (fun q=>f (q+1)) e2 (fun b hb=>ho b (List.mem_append_right _ hb)) (fun q hq=>by simpa using hx (q+1) (by simpa using hq))
   refine⟨by simp[g1],fun q hq=> ?_⟩
   cases q with
   |zero=>simpa using BC e1 (fun b hb=>ho b (List.mem_append_left _ hb)) (by simpa using hx 0 (by simp))
   |succ q=>simpa using g2 q (by simpa using hq)
  ·cases hf
end
end
theorem bE.views {P:Program} {f:FuncId} {args:List AV} {res res':AV} {h':List aU} {o:List Bool} (hm:bE P f args [] res h') (hv:vwA (Heap.get h') res=some (res',o)) (ho: ∀b∈o,b=true):
  bE P f args [] res' []:=by
 refine⟨hm.1,fun {X w0 ρ0} m vs hl hva=> ?_⟩
 refine Calls.mono (hm.2 m vs hl hva) ?_
 rintro e w' ⟨v,ρ',rfl,mb,im,m',hr⟩
 have hun: ∀id,ρ0 id=.unborn:=fun id=>by
  have hs:=m.slot id
  rw[Heap.get_ge (by simp)]at hs
  cases hx:ρ0 id<;>rw[hx]at hs<;>first|rfl|exact hs.elim
 have hr':=BC m' hun hv ho hr
 refine⟨v,ρ0,rfl,⟨mb.keep,mb.shape,mb.size,fun b hb=> .inl hb⟩,cA.refl _,⟨fun id=> ?_,(fun i j b hi _=>absurd (hun i) (by rw[hi];simp)),(fun id b hb=>absurd (hun id) (by rw[hb];simp)),m'.os,m'.tape,m'.output,m'.size,m'.keep,m'.foreign⟩,hr'⟩
 rw[Heap.get_ge (by simp),hun id];trivial
def dV (tt:Tab) (ct:CT) (fn:Func) (p:gC):aM:=fun args h=>
 match aE tt ct [] 1000 fn args h p with
 |some ⟨res,h',b,[]⟩=>some (res,h',[b])
 |_=>none
theorem cG {P:Program} {tt:Tab} (hT:iC P tt) {ct:CT} (hct:bK P ct) (bF:P.follows .mixedOrders=true) {f:FuncId} {fn:Func} (p:gC) (hf:P.funcs[f]? =some fn)
  (hnm:(fn.name== "runtime.NumGoroutine")=false):aQ P f (dV tt ct fn p):=by
 intro args h res h' o he ho
 unfold dV at he
 split at he
 ·rename_i r hh b e
  injection he with he;injection he with e1 e2;injection e2 with e2 e3;subst e1 e2 e3
  exact pV hT hct bF (p:=p) hf hnm e (ho _ (List.mem_singleton.2 rfl)) (fun q hq=>by cases hq) (fun c _=>aK.nil)
 ·cases he
end
section
theorem aL (n m:Nat):A4 1 n m=m:=rfl
theorem f8.trans {m:Nat} {s t u:St} (a:f8 m s t) (b:f8 m t u):f8 m s u:=fun X w0 ρ0 ρ ac w h0 r=>by
 obtain⟨ρ',r'⟩:=a h0 r
 exact b h0 r'
theorem aN.pre {ro:Option Nat} {P:Program} {m:Nat} {c:Code} {s t:St} {Q:Ex→St→Prop} (g:aN ro P m c t Q) (h:f8 m s t):aN ro P m c s Q:=fun X w0 ρ0 ρ a w h0 r=>by
 obtain⟨ρ',r'⟩:=h h0 r
 exact g h0 r'
def lM (id es:Nat):List aF→Nat→List aF
 |[],_=>[]
 |x::r,0=>(match x with|.nils=> .sl id 0 0 es none|x=>x)::r
 |x::r,q+1=>x::lM id es r q
theorem w8 (id es:Nat): ∀(l:List aF) (q:Nat),(lM id es l q).length=l.length
 |[],_=>rfl
 |x::r,0=>by simp[lM]
 |x::r,q+1=>by simp[lM,w8 id es r q]
theorem w7 (id es:Nat): ∀(l:List aF) (q i:Nat),(lM id es l q).getD i .any=l.getD i .any∨(l.getD i .any=.nils∧(lM id es l q).getD i .any=.sl id 0 0 es none)
 |[],_,i=> .inl rfl
 |x::r,0,0=>by
  cases x<;>first|exact .inl rfl|exact .inr ⟨rfl,rfl⟩
 |x::r,0,i+1=> .inl (by simp[lM])
 |x::r,q+1,0=> .inl (by simp[lM])
 |x::r,q+1,i+1=>by simpa [lM]using w7 id es r q i
def nilH (r q es:Nat) (c0:Con) (s:St):St:=
 {s with heap:=(match Heap.get s.heap r with|.live (.cells cs)=>s.heap.set r (.live (.cells (lM s.heap.length es cs q)))|_=>s.heap)++[.live c0]}
section
variable {X : Nat → Prop} {w0 w : World} {ρ0 ρ : Rho}
theorem gK (w:World) {ρ:Rho} {id:Nat} (hid:ρ id=.unborn):bL w ρ w (upd ρ id .nil):=by
 refine⟨fun _ _ _=>rfl,fun _ _=>rfl,Nat.le_refl _,fun j hj=> ?_,fun j hj=> ?_,fun j b hj=> ?_,fun j b hj=> ?_⟩
 ·rw[bI _ _ (fun e=>by rw[e,hid]at hj;cases hj)];exact hj
 ·rw[bI _ _ (fun e=>by rw[e,hid]at hj;cases hj)];exact .inl hj
 ·rw[bI _ _ (fun e=>by rw[e,hid]at hj;cases hj)];exact .inl hj
 ·by_cases e:j=id
  ·subst e;rw[aW]at hj;cases hj
  ·rw[bI _ _ e]at hj;exact .inl ⟨j,hj⟩
theorem iK {id es:Nat} {v:Value} (h:CR X w ρ .nils v):CR X w (upd ρ id .nil) (.sl id 0 0 es none) v:=by
 cases h
 exact .slNone id 0 es none none (by rw[aW];simp) (fun _ h=>by cases h)
theorem Rel.nil {s:St} {a:Act} (r:Rel X w0 ρ0 s ρ a w) {c0:Con} (hc:c0.size=0) {T:List AV} {H:List aU} (hTl:T.length=s.tmps.length) (hHl:H.length=s.heap.length)
  (hT: ∀t,t<s.tmps.length→T.getD t (.tup [])=s.tmps.getD t (.tup [])∨ ∃es,s.tmps.getD t (.tup [])=.c .nils∧T.getD t (.tup [])=.c (.sl s.heap.length 0 0 es none))
  (hH: ∀id,Heap.get H id=Heap.get s.heap id∨ ∃cs cs',Heap.get s.heap id=.live (.cells cs)∧Heap.get H id=.live (.cells cs')∧cs'.length=cs.length∧
   ∀i,cs'.getD i .any=cs.getD i .any∨ ∃es,cs.getD i .any=.nils∧cs'.getD i .any=.sl s.heap.length 0 0 es none):
  Rel X w0 ρ0 ⟨T,H++[.live c0]⟩ (upd ρ s.heap.length .nil) a w:=by
 have hun:ρ s.heap.length=.unborn:=by
  have hs:=r.mem.slot s.heap.length
  rw[Heap.get_ge (Nat.le_refl _)]at hs
  cases hx:ρ s.heap.length<;>rw[hx]at hs<;>first|rfl|exact hs.elim
 have mo:=gK w hun
 refine⟨by rw[hTl];exact r.size,fun t ht=> ?_,⟨fun id=> ?_,fun i j b hi hj=> ?_,fun id b hb=> ?_,r.mem.os,r.mem.tape,r.mem.output,r.mem.size,r.mem.keep,r.mem.foreign⟩,r.defers,
  r.mono.trans mo.toB,r.ids.trans mo.ids⟩
 ·dsimp only at ht⊢
  rw[hTl]at ht
  rcases hT t ht with e|⟨es,e1,e2⟩
  ·rw[e];exact(r.tmps t ht).mono mo
  ·have h:=r.tmps t ht
   rw[e1]at h
   rw[e2]
   cases h with
   |c x v h=>exact .c _ _ (iK h)
 ·by_cases e:id=s.heap.length
  ·subst e
   have:Heap.get (H++[.live c0]) s.heap.length=.live c0:=by
    unfold Heap.get
    rw[List.getD_eq_getElem?_getD,List.getElem?_append_right (by omega),hHl];simp
   rw[this,aW];exact hc
  ·have hg:Heap.get (H++[.live c0]) id=Heap.get H id:=by
    unfold Heap.get
    rw[List.getD_eq_getElem?_getD,List.getD_eq_getElem?_getD,List.getElem?_append]
    split
    ·rfl
    ·rw[List.getElem?_eq_none (l:=H) (by omega),List.getElem?_eq_none (by simp;omega)]
   rw[hg,bI _ _ e]
   have hs:=r.mem.slot id
   rcases hH id with e1|⟨cs,cs',e1,e2,e3,e4⟩
   ·rw[e1];exact hs.mono mo fun _ _=>rfl
   ·rw[e1]at hs
    rw[e2]
    cases hx:ρ id with
    |unborn=>rw[hx]at hs;exact hs.elim
    |dead=>rw[hx]at hs;exact hs.elim
    |nil=>rw[hx]at hs;simp only[eN,Con.size]at hs⊢;omega
    |row b=>
     rw[hx]at hs
     obtain⟨vs,ty,h1,h2,h3⟩:=hs
     refine⟨vs,ty,h1,by simp only[Con.size]at h2⊢;omega,fun q hq=> ?_⟩
     have h:=h3 q (by simp only[Con.size]at hq⊢;omega)
     simp only[Con.cell]at h⊢
     rcases e4 q with e5|⟨es,e5,e6⟩
     ·rw[e5];exact h.mono mo
     ·rw[e5]at h;rw[e6];exact iK h
 ·by_cases e:i=s.heap.length
  ·subst e;rw[aW]at hi;cases hi
  ·by_cases e':j=s.heap.length
   ·subst e';rw[aW]at hj;cases hj
   ·rw[bI _ _ e]at hi;rw[bI _ _ e']at hj
    exact r.mem.inj i j b hi hj
 ·by_cases e:id=s.heap.length
  ·subst e;rw[aW]at hb;cases hb
  ·rw[bI _ _ e]at hb;exact r.mem.own id b hb
theorem f8.nilH (m r q es:Nat) (c0:Con) (hc:c0.size=0) (s:St):f8 m s (Am.nilH r q es c0 s):=fun X w0 ρ0 ρ a w h0 rl=>by
 refine⟨_,Rel.nil rl hc rfl ?_ (fun t ht=> .inl rfl) (fun id=> ?_)⟩
 ·split<;>simp
 ·split
  ·rename_i cs hg
   rw[Heap.get_set]
   by_cases e:id=r∧r<s.heap.length
   ·rw[if_pos e]
    obtain⟨rfl,hlt⟩:=e
    refine .inr ⟨cs,_,hg,rfl,w8 _ _ _ _,fun i=> ?_⟩
    rcases w7 s.heap.length es cs q i with h|⟨h1,h2⟩
    ·exact .inl h
    ·exact .inr ⟨es,h1,h2⟩
   ·rw[if_neg e];exact .inl rfl
  ·exact .inl rfl
end
end
section
def T16:List aZ:=[⟨255,[],BZ⟩]++T15
theorem e16:a7 Tryz.prog T16:=by
 refine a7.append ?_ e15
 intro e he
 simp only[List.mem_cons,List.not_mem_nil,or_false]at he
 subst he;exact a7Z
theorem t16:bK Tryz.prog (a9 T16):=aO e16
def ldK (xs:List Int) (i:Nat):Int:=eD (fun x=>x !=0) [xs.getD (i*12) 0,xs.getD (i*12+1) 0,xs.getD (i*12+2) 0,xs.getD (i*12+3) 0]
def cK (xs:List Int) (i:Nat) (k:List Int):Int:=[k.getD 0 0,k.getD 1 0,k.getD 2 0,k.getD 3 0,k.getD 4 0,k.getD 5 0,k.getD 6 0,k.getD 7 0,k.getD 8 0,k.getD 9 0,k.getD 10 0,k.getD 11 0].getD (ldK xs i).toNat 0
def w5 (xs:List Int) (i:Nat) (k:List Int) (j:Nat):Int:=(k.getD j 0+xs.getD (i*12+j) 0*cK xs i k%31*30%31)%31
def lL (xs:List Int) (i:Nat) (k:List Int) (j:Nat):Int:=(k.getD j 0-xs.getD (i*12+j) 0*cK xs i k%31)%31
def A0 (xs:List Int) (i:Nat) (k:List Int):List Int:=[w5 xs i k 0,w5 xs i k 1,w5 xs i k 2,w5 xs i k 3,lL xs i k 4,lL xs i k 5,lL xs i k 6,lL xs i k 7,lL xs i k 8,lL xs i k 9,lL xs i k 10,lL xs i k 11]
def oV (xs:List Int):Nat→Nat→List Int→List Int
 |0,_,k=>k
 |m+1,i,k=>oV xs m (i+1) (A0 xs i k)
def w6 (xs:List Int) (n:Nat) (k:List Int):List Int:=oV xs n 0 k
noncomputable abbrev f181:=Tryz.f282
noncomputable def yR (n m:Nat) (xs ps:List Int) (i:Int) (k:List Int):St:=
 aR f181.ntmps [(3,.c (.ptr 3 0 0 0)),(4,.c (.ptr 4 0 0 0)),(12,.c (.sl 1 0 n 12 none)),(13,.c (.int .i64 n)),(14,.c (.int .i64 i))]
  [.live (.cells [.sl 1 0 n 12 none,.sl 2 0 m 1 none]),.live (.ints .i64 xs),.live (.ints .i64 ps),.live (.ints .i64 [k.getD 0 0,k.getD 1 0,k.getD 2 0,k.getD 3 0,k.getD 4 0,k.getD 5 0,k.getD 6 0,k.getD 7 0,k.getD 8 0,k.getD 9 0,k.getD 10 0,k.getD 11 0]),.live (.ints .i64 [0,0,0,0,0,0,0,0,0,0,0,0])]
noncomputable def LS (n m:Nat) (xs ps:List Int) (k:List Int):St:=
 aR f181.ntmps [(3,.c (.ptr 3 0 0 0)),(4,.c (.ptr 4 0 0 0))]
  [.live (.cells [.sl 1 0 n 12 none,.sl 2 0 m 1 none]),.live (.ints .i64 xs),.live (.ints .i64 ps),.live (.ints .i64 [k.getD 0 0,k.getD 1 0,k.getD 2 0,k.getD 3 0,k.getD 4 0,k.getD 5 0,k.getD 6 0,k.getD 7 0,k.getD 8 0,k.getD 9 0,k.getD 10 0,k.getD 11 0]),.live (.ints .i64 [0,0,0,0,0,0,0,0,0,0,0,0])]
theorem TK (n m:Nat) (xs ps:List Int) (i:Int) (k:List Int):aC 3 (a6 f181 0) (a8 f181 0) (aD tt (a9 T16) [] 3 100 (a5 0 (a0 f181)) (yR n m xs ps i k) [(0,true)])=
  some (.normal,(decide (i< ↑n)&&(decide (0≤i)&&(decide (i< ↑n)&&(decide (i.toNat*12+12≤xs.length)&&(decide (0≤ldK xs i.toNat)&&(decide (ldK xs i.toNat<4)&&(decide ((ldK xs i.toNat).toNat<[k.getD 0 0,k.getD 1 0,k.getD 2 0,k.getD 3 0,k.getD 4 0,k.getD 5 0,k.getD 6 0,k.getD 7 0,k.getD 8 0,k.getD 9 0,k.getD 10 0,k.getD 11 0].length)&&(fok (xs.getD (i.toNat*12) 0)&&(fok (cK xs i.toNat k)&&(fok (xs.getD (i.toNat*12+1) 0)&&(fok (cK xs i.toNat k)&&(fok (xs.getD (i.toNat*12+2) 0)&&(fok (cK xs i.toNat k)&&(fok (xs.getD (i.toNat*12+3) 0)&&(fok (cK xs i.toNat k)&&(fok (k.getD 0 0)&&(fok (xs.getD (i.toNat*12) 0*cK xs i.toNat k%31)&&(fok (k.getD 1 0)&&(fok (xs.getD (i.toNat*12+1) 0*cK xs i.toNat k%31)&&(fok (k.getD 2 0)&&(fok (xs.getD (i.toNat*12+2) 0*cK xs i.toNat k%31)&&(fok (k.getD 3 0)&&(fok (xs.getD (i.toNat*12+3) 0*cK xs i.toNat k%31)&&(fok (xs.getD (i.toNat*12+4) 0)&&(fok (cK xs i.toNat k)&&(fok (k.getD 4 0)&&(fok (xs.getD (i.toNat*12+4) 0*cK xs i.toNat k%31)&&(fok (xs.getD (i.toNat*12+5) 0)&&(fok (cK xs i.toNat k)&&(fok (k.getD 5 0)&&(fok (xs.getD (i.toNat*12+5) 0*cK xs i.toNat k%31)&&(fok (xs.getD (i.toNat*12+6) 0)&&(fok (cK xs i.toNat k)&&(fok (k.getD 6 0)&&(fok (xs.getD (i.toNat*12+6) 0*cK xs i.toNat k%31)&&(fok (xs.getD (i.toNat*12+7) 0)&&(fok (cK xs i.toNat k)&&(fok (k.getD 7 0)&&(fok (xs.getD (i.toNat*12+7) 0*cK xs i.toNat k%31)&&(fok (xs.getD (i.toNat*12+8) 0)&&(fok (cK xs i.toNat k)&&(fok (k.getD 8 0)&&(fok (xs.getD (i.toNat*12+8) 0*cK xs i.toNat k%31)&&(fok (xs.getD (i.toNat*12+9) 0)&&(fok (cK xs i.toNat k)&&(fok (k.getD 9 0)&&(fok (xs.getD (i.toNat*12+9) 0*cK xs i.toNat k%31)&&(fok (xs.getD (i.toNat*12+10) 0)&&(fok (cK xs i.toNat k)&&(fok (k.getD 10 0)&&(fok (xs.getD (i.toNat*12+10) 0*cK xs i.toNat k%31)&&(fok (xs.getD (i.toNat*12+11) 0)&&(fok (cK xs i.toNat k)&&(fok (k.getD 11 0)&&((fok (xs.getD (i.toNat*12+11) 0*cK xs i.toNat k%31))&&true))))))))))))))))))))))))))))))))))))))))))))))))))))))),[],yR n m xs ps (IntKind.i64.wrap (i+1)) (A0 xs i.toNat k)):=by kernel_rfl
theorem TL (n m:Nat) (xs ps:List Int) (i:Int) (k:List Int):aC 3 (a6 f181 0) (a8 f181 0) (aD tt (a9 T16) [] 3 100 (a5 0 (a0 f181)) (yR n m xs ps i k) [(0,false)])=
  some (.exit 0,((!decide (i< ↑n))&&true),[],LS n m xs ps k):=by kernel_rfl
def tD (xs:List Int) (n:Nat):Bool:=cN (fun i=>bet (ldK xs i) 0 3) n
theorem a6B (n m:Nat) (xs ps:List Int) (k:List Int) (hn:n≤274877906944) (hx:xs.length=n*12) (hf:aA xs=true) (hk:aA k=true) (hl:tD xs n=true):
  aN none Tryz.prog 3 (.block 0 (.loop (a5 0 (a0 f181)))) (yR n m xs ps 0 k) fun e t=>e=.normal∧t=LS n m xs ps (w6 xs n k):=by
 refine aN.roundsN (ro:=none) hT t16 bF (m:=3) (id:=0) (body:=a5 0 (a0 f181)) (α:=Nat×List Int)
  (fun x=>x.1≤n∧aA x.2=true∧oV xs (n-x.1) x.1 x.2=w6 xs n k) (fun x=>yR n m xs ps x.1 x.2) (fun x=>n-x.1) (a6 f181 0) (a8 f181 0)
  (fun _=>LS n m xs ps (w6 xs n k)) (fun _=>[]) (fun _ _=>aK.nil) (fun x hx=> ?_) (0,k) ⟨by simp,hk,rfl⟩
 obtain⟨i,k⟩:=x
 obtain⟨h1,h2,h3⟩:=hx
 dsimp only at h1 h2 h3⊢
 by_cases hi:i<n
 ·have hkk:n-i=(n-(i+1))+1:=by omega
  rw[hkk]at h3
  simp only[oV]at h3
  have hld:bet (ldK xs i) 0 3=true:=aX hl i hi
  have hld':=hld
  simp only[bet,Bool.and_eq_true,rpS,decide_eq_true_eq]at hld'
  have hc:fok (cK xs i k)=true:=aT (v:=[k.getD 0 0,k.getD 1 0,k.getD 2 0,k.getD 3 0,k.getD 4 0,k.getD 5 0,k.getD 6 0,k.getD 7 0,k.getD 8 0,k.getD 9 0,k.getD 10 0,k.getD 11 0]) (by simp[aA,aT h2,-List.getD_eq_getElem?_getD]) _
  refine⟨_,_,_,_,_,_,TK n m xs ps i k, ?_,by simp,.inl ⟨rfl,(i+1,A0 xs i k),⟨by omega, ?_,h3⟩,by dsimp only;omega, ?_,rfl⟩⟩
  ·rw[Int.toNat_natCast]
   simp only[aT hf,aT h2,c9,hc,Bool.true_and,rpS,Bool.and_true,Bool.and_eq_true,decide_eq_true_eq,List.length_cons,List.length_nil]
   omega
  ·simp only[aA,A0,w5,lL,List.all_cons,List.all_nil,c9,Bool.and_self]
  ·rw[aB (by omega) (by omega),Int.toNat_natCast];rfl
 ·have hz:n-i=0:=by omega
  rw[hz]at h3
  simp only[oV]at h3
  exact⟨_,_,_,_,_,_,TL n m xs ps i k,by simp;omega,by simp,.inr ⟨rfl,by rw[h3]⟩⟩
def QQ (k:List Int):List aF:=[.int .i64 (k.getD 0 0),.int .i64 (k.getD 1 0),.int .i64 (k.getD 2 0),.int .i64 (k.getD 3 0),.int .i64 (k.getD 4 0),.int .i64 (k.getD 5 0),.int .i64 (k.getD 6 0),.int .i64 (k.getD 7 0),.int .i64 (k.getD 8 0),.int .i64 (k.getD 9 0),.int .i64 (k.getD 10 0),.int .i64 (k.getD 11 0)]
def BQ:aM:=fun args h=>
 match args,h with
 |[.c (.ptr 0 0 0 0),.agg [.int .i64 k0,.int .i64 k1,.int .i64 k2,.int .i64 k3,.int .i64 b0,.int .i64 b1,.int .i64 b2,.int .i64 b3,.int .i64 b4,.int .i64 b5,.int .i64 b6,.int .i64 b7]],[.live (.cells [.sl 1 0 n 12 none,.sl 2 0 m 1 none]),.live (.ints .i64 xs),.live (.ints .i64 ps)]=>
  some (.agg (QQ (w6 xs n [k0,k1,k2,k3,b0,b1,b2,b3,b4,b5,b6,b7])),[.live (.cells [.sl 1 0 n 12 none,.sl 2 0 m 1 none]),.live (.ints .i64 xs),.live (.ints .i64 ps)],[decide (n≤274877906944),decide (xs.length=n*12),aA xs,aA [k0,k1,k2,k3,b0,b1,b2,b3,b4,b5,b6,b7],tD xs n])
 |_,_=>none
theorem a8A:aQ Tryz.prog 282 BQ:=by
 intro args h res h' o he ho
 unfold BQ at he
 split at he
 case h_2=>cases he
 rename_i k0 k1 k2 k3 b0 b1 b2 b3 b4 b5 b6 b7 n m xs ps
 simp only[Option.some.injEq,Prod.mk.injEq]at he
 obtain⟨rfl,rfl,rfl⟩:=he
 simp only[List.mem_cons,List.not_mem_nil,or_false,forall_eq_or_imp,forall_eq,decide_eq_true_eq]at ho
 obtain⟨o1,o2,o3,o4,o5⟩:=ho
 exact c8 t16 (fn:=f181) (lc:=[(0,⟨a6 f181 0,yR n m xs ps 0 [k0,k1,k2,k3,b0,b1,b2,b3,b4,b5,b6,b7],.normal,LS n m xs ps (w6 xs n [k0,k1,k2,k3,b0,b1,b2,b3,b4,b5,b6,b7])⟩)]) (fuel:=100) (p:=[])
  (o:=⟨_,_,true,[yR n m xs ps 0 [k0,k1,k2,k3,b0,b1,b2,b3,b4,b5,b6,b7]=yR n m xs ps 0 [k0,k1,k2,k3,b0,b1,b2,b3,b4,b5,b6,b7]]⟩)
  (by kernel_rfl) (by kernel_rfl) (by kernel_rfl) rfl (by simp) (fun cc hc=>aK.cons (c:=cc) (by cases hc;kernel_rfl) (by cases hc;exact a6B n m xs ps _ o1 o2 o3 o4 o5) aK.nil)
end
section
def T17:List aZ:=[⟨282,[0],BQ⟩]++T16
theorem e17:a7 Tryz.prog T17:=by
 refine a7.append ?_ e16
 intro e he
 simp only[List.mem_cons,List.not_mem_nil,or_false]at he
 subst he;exact a8A
theorem t17:bK Tryz.prog (a9 T17):=aO e17
noncomputable abbrev f161:=Tryz.f256
def JO (xs:List Int) (i:Nat):List Int:=[xs.getD (i*4+0) 0,xs.getD (i*4+1) 0,xs.getD (i*4+2) 0,xs.getD (i*4+3) 0,if i=0 then 1 else 0,if i=1 then 1 else 0,if i=2 then 1 else 0,if i=3 then 1 else 0,if i=4 then 1 else 0,if i=5 then 1 else 0,if i=6 then 1 else 0,if i=7 then 1 else 0]
def KK (xs ys:List Int) (r i:Nat):List Int:=w6 ys r (JO xs i)
def ld4 (k:List Int):Int:=eD (fun x=>x !=0) [k.getD 0 0,k.getD 1 0,k.getD 2 0,k.getD 3 0]
def at4 (k:List Int):Int:=[k.getD 0 0,k.getD 1 0,k.getD 2 0,k.getD 3 0,k.getD 4 0,k.getD 5 0,k.getD 6 0,k.getD 7 0,k.getD 8 0,k.getD 9 0,k.getD 10 0,k.getD 11 0].getD (ld4 k).toNat 0
def cI (k:List Int):Int:=inv (at4 k)
def nK (k:List Int):List Int:=[k.getD 0 0*cI k%31,k.getD 1 0*cI k%31,k.getD 2 0*cI k%31,k.getD 3 0*cI k%31,k.getD 4 0*cI k%31,k.getD 5 0*cI k%31,k.getD 6 0*cI k%31,k.getD 7 0*cI k%31,k.getD 8 0*cI k%31,k.getD 9 0*cI k%31,k.getD 10 0*cI k%31,k.getD 11 0*cI k%31]
def fO (xs:List Int):Nat→Nat→List Int×List Int→List Int×List Int
 |0,_,s=>s
 |f+1,i,s=>fO xs f (i+1) (bif decide (ld4 (KK xs s.1 s.2.length i)<0)then s else(s.1++nK (KK xs s.1 s.2.length i),s.2++[(i:Int)]))
def eS (xs:List Int) (n:Nat):List Int×List Int:=fO xs n 0 ([],[])
noncomputable def CB (n:Nat) (xs:List Int) (r m:Nat) (ys ps:List Int) (i:Int):St:=
 aR f161.ntmps [(3,.c (.ptr 0 0 0 0)),(12,.c (.view none (.ints .i64 xs) n 4 none)),(13,.c (.int .i64 n)),(14,.c (.int .i64 i))]
  [.live (.cells [.sl 1 0 r 12 none,.sl 2 0 m 1 none]),.live (.ints .i64 ys),.live (.ints .i64 ps)]
noncomputable def LO (r m:Nat) (ys ps:List Int):St:=
 aR f161.ntmps [(3,.c (.ptr 0 0 0 0))] [.live (.cells [.sl 1 0 r 12 none,.sl 2 0 m 1 none]),.live (.ints .i64 ys),.live (.ints .i64 ps)]
section
variable (n : Nat) (xs : List Int) (r m : Nat) (ys ps : List Int)
theorem TB (i:Nat) (hi:i<8):aC 0 (a6 f161 0) (a8 f161 0) (aD tt (a9 T17) [] 0 100 (a5 0 (a0 f161)) (CB n xs r m ys ps i) [(0,true),(0,true)])=
  some (.normal,(rp2 (decide ((i:Int)<n)) (decide (i*4+4≤xs.length)&&(decide (r≤274877906944)&&(decide (ys.length=r*12)&&(aA ys&&(aA (JO xs i)&&(tD ys r&&(decide (ld4 (KK xs ys r i)<0)&&true)))))))),[],CB n xs r m ys ps (i+1:Nat)):=
 match i,hi with
 |0,_=>by kernel_rfl
 |1,_=>by kernel_rfl
 |2,_=>by kernel_rfl
 |3,_=>by kernel_rfl
 |4,_=>by kernel_rfl
 |5,_=>by kernel_rfl
 |6,_=>by kernel_rfl
 |7,_=>by kernel_rfl
theorem TC (i:Nat) (hi:i<8):aC 0 (a6 f161 0) (a8 f161 0) (aD tt (a9 T17) [] 0 100 (a5 0 (a0 f161)) (CB n xs r m ys ps i) [(0,true),(0,false)])=
  some (.normal,(rp2 (decide ((i:Int)<n)) (decide (i*4+4≤xs.length)&&(decide (r≤274877906944)&&(decide (ys.length=r*12)&&(aA ys&&(aA (JO xs i)&&(tD ys r&&(!decide (ld4 (KK xs ys r i)<0)&&(decide (0≤ld4 (KK xs ys r i))&&(decide (ld4 (KK xs ys r i)<4)&&(decide ((ld4 (KK xs ys r i)).toNat<12)&&(fok (at4 (KK xs ys r i))&&(fok ((KK xs ys r i).getD 0 0)&&(fok (cI (KK xs ys r i))&&(fok ((KK xs ys r i).getD 1 0)&&(fok (cI (KK xs ys r i))&&(fok ((KK xs ys r i).getD 2 0)&&(fok (cI (KK xs ys r i))&&(fok ((KK xs ys r i).getD 3 0)&&(fok (cI (KK xs ys r i))&&(fok ((KK xs ys r i).getD 4 0)&&(fok (cI (KK xs ys r i))&&(fok ((KK xs ys r i).getD 5 0)&&(fok (cI (KK xs ys r i))&&(fok ((KK xs ys r i).getD 6 0)&&(fok (cI (KK xs ys r i))&&(fok ((KK xs ys r i).getD 7 0)&&(fok (cI (KK xs ys r i))&&(fok ((KK xs ys r i).getD 8 0)&&(fok (cI (KK xs ys r i))&&(fok ((KK xs ys r i).getD 9 0)&&(fok (cI (KK xs ys r i))&&(fok ((KK xs ys r i).getD 10 0)&&(fok (cI (KK xs ys r i))&&(fok ((KK xs ys r i).getD 11 0)&&(fok (cI (KK xs ys r i))&&(decide (r*12=ys.length)&&(decide (r+1≤274877906944)&&(decide (m=ps.length)&&(decide (m+1≤274877906944)&&true)))))))))))))))))))))))))))))))))))))))),[],CB n xs (r+1) (m+1) (ys++nK (KK xs ys r i)) (ps++[(i:Int)]) (i+1:Nat)):=
 match i,hi with
 |0,_=>by kernel_rfl
 |1,_=>by kernel_rfl
 |2,_=>by kernel_rfl
 |3,_=>by kernel_rfl
 |4,_=>by kernel_rfl
 |5,_=>by kernel_rfl
 |6,_=>by kernel_rfl
 |7,_=>by kernel_rfl
theorem TE (i:Int):aC 0 (a6 f161 0) (a8 f161 0) (aD tt (a9 T17) [] 0 100 (a5 0 (a0 f161)) (CB n xs r m ys ps i) [(0,false)])=
  some (.exit 0,(!decide (i<n)&&true),[],LO r m ys ps):=by kernel_rfl
end
theorem XD (a b c d:Int):eD (fun x=>x !=0) [a,b,c,d]=if a≠0 then 0 else if b≠0 then 1 else if c≠0 then 2 else if d≠0 then 3 else -1:=by
 have e: ∀x:Int,x=0∨(x≠0∧(x !=0)=true):=fun x=>by
  by_cases h:x=0
  ·exact .inl h
  ·exact .inr ⟨h,bne_iff_ne.2 h⟩
 unfold eD eU
 rcases e a with ha|⟨ha,ha'⟩
 ·subst ha
  rcases e b with hb|⟨hb,hb'⟩
  ·subst hb
   rcases e c with hc|⟨hc,hc'⟩
   ·subst hc
    rcases e d with hd|⟨hd,hd'⟩
    ·subst hd;rfl
    ·simp[dM,hd,hd',-bne_iff_ne]
   ·simp[dM,hc,hc',-bne_iff_ne]
  ·simp[dM,hb,hb',-bne_iff_ne]
 ·simp[dM,ha,ha',-bne_iff_ne]
theorem MM {a b c d:Int} (h:a≠0∨b≠0∨c≠0∨d≠0):bet (eD (fun x=>x !=0) [a,b,c,d]) 0 3=true:=by
 rw[XD]
 by_cases ha:a=0<;>by_cases hb:b=0<;>by_cases hc:c=0<;>by_cases hd:d=0<;>simp[ha,hb,hc,hd,bet]at h⊢
theorem w3 {k:List Int} (h:0≤ld4 k):(ld4 k=0∧k.getD 0 0≠0)∨(ld4 k=1∧k.getD 1 0≠0)∨(ld4 k=2∧k.getD 2 0≠0)∨(ld4 k=3∧k.getD 3 0≠0):=by
 unfold ld4 at h⊢
 rw[XD]at h⊢
 generalize k.getD 0 0=a at*
 generalize k.getD 1 0=b at*
 generalize k.getD 2 0=c at*
 generalize k.getD 3 0=d at*
 by_cases ha:a=0<;>by_cases hb:b=0<;>by_cases hc:c=0<;>by_cases hd:d=0<;>simp[ha,hb,hc,hd]at h⊢
theorem tE (xs:List Int): ∀(m i:Nat) (k:List Int),aA k=true→aA (oV xs m i k)=true
 |0,_,_,h=>h
 |m+1,i,k,h=>tE xs m (i+1) _ (by simp only[aA,A0,w5,lL,List.all_cons,List.all_nil,c9,Bool.and_self])
theorem sZ {xs:List Int} (h:aA xs=true) (i:Nat):aA (JO xs i)=true:=by
 have e: ∀j,fok (if i=j then 1 else 0)=true:=fun j=>by split<;>rfl
 simp only[aA,JO,List.all_cons,List.all_nil,aT h,e,Bool.and_self]
theorem QA {xs:List Int} (h:aA xs=true) (ys:List Int) (r i:Nat):aA (KK xs ys r i)=true:=tE ys r 0 _ (sZ h i)
theorem rA (n:Int):fok (inv n)=true:=by
 unfold inv
 exact aT (v:=[0,1,16,21,8,25,26,9,4,7,28,17,13,12,20,29,2,11,19,18,14,3,24,27,22,5,6,23,10,15,30]) rfl _
theorem nA {n:Int} (h:fok n=true) (h0:n≠0):n*inv n%31=1:=by
 have key:=MY (q:=fun n=>(decide (n≠0)→n*inv n%31=1)) (fun k hk=>by
  have all:cN (fun k=> !decide ((k:Int)≠0)||decide ((k:Int)*inv k%31=1)) 31=true:=by kernel_rfl
  have:=aX all k hk
  simp only[Bool.or_eq_true,Bool.not_eq_true',decide_eq_false_iff_not,decide_eq_true_eq]at this
  intro h
  rcases this with h'|h'
  ·simp at h;omega
  ·exact h') h
 exact key (by simpa using h0)
theorem M3 {k:List Int} (h:aA k=true):fok (at4 k)=true:=by
 unfold at4
 exact aT (v:=[k.getD 0 0,k.getD 1 0,k.getD 2 0,k.getD 3 0,k.getD 4 0,k.getD 5 0,k.getD 6 0,k.getD 7 0,k.getD 8 0,k.getD 9 0,k.getD 10 0,k.getD 11 0])
  (by simp only[aA,List.all_cons,List.all_nil,aT h,Bool.and_self]) _
theorem A9 (k:List Int):aA (nK k)=true:=by simp only[aA,nK,List.all_cons,List.all_nil,c9,Bool.and_self]
theorem AA (k:List Int):(nK k).length=12:=rfl
theorem FI {k:List Int} (hk:aA k=true) (h:0≤ld4 k):bet (eD (fun x=>x !=0) [(nK k).getD 0 0,(nK k).getD 1 0,(nK k).getD 2 0,(nK k).getD 3 0]) 0 3=true:=by
 refine MM ?_
 have e: ∀j,j<12→(nK k).getD j 0=k.getD j 0*cI k%31:=fun j hj=>by
  match j,hj with
  |0,_|1,_|2,_|3,_|4,_|5,_|6,_|7,_|8,_|9,_|10,_|11,_=>rfl
 rw[e 0 (by omega),e 1 (by omega),e 2 (by omega),e 3 (by omega)]
 rcases w3 h with⟨h1,h2⟩|⟨h1,h2⟩|⟨h1,h2⟩|⟨h1,h2⟩
 ·have hc:cI k=inv (k.getD 0 0):=by unfold cI at4;rw[h1];rfl
  exact .inl (by rw[hc,nA (aT hk _) h2];decide)
 ·have hc:cI k=inv (k.getD 1 0):=by unfold cI at4;rw[h1];rfl
  exact .inr (.inl (by rw[hc,nA (aT hk _) h2];decide))
 ·have hc:cI k=inv (k.getD 2 0):=by unfold cI at4;rw[h1];rfl
  exact .inr (.inr (.inl (by rw[hc,nA (aT hk _) h2];decide)))
 ·have hc:cI k=inv (k.getD 3 0):=by unfold cI at4;rw[h1];rfl
  exact .inr (.inr (.inr (by rw[hc,nA (aT hk _) h2];decide)))
theorem dS (xs ys:List Int) (i:Nat):(xs++ys).getD i 0=if i<xs.length then xs.getD i 0 else ys.getD (i-xs.length) 0:=by
 rw[List.getD_eq_getElem?_getD,List.getElem?_append]
 split<;>rw[List.getD_eq_getElem?_getD]
theorem mO {f:Nat→Bool}: ∀ {n:Nat},(∀k,k<n→f k=true)→cN f n=true
 |0,_=>rfl
 |n+1,h=>by simp only[cN,Bool.and_eq_true,rpS];exact⟨h n (by omega),mO fun k hk=>h k (by omega)⟩
theorem eB {xs ys:List Int} (h:aA xs=true) (h':aA ys=true):aA (xs++ys)=true:=by
 simp only[aA,List.all_append,Bool.and_eq_true,rpS]at h h'⊢;exact⟨h,h'⟩
theorem FD {ys:List Int} {r:Nat} (hl:ys.length=r*12) (h:tD ys r=true) {k:List Int} (hk:aA k=true) (h0:0≤ld4 k):tD (ys++nK k) (r+1)=true:=by
 refine mO fun i hi=> ?_
 by_cases e:i=r
 ·subst e
  have:=FI hk h0
  unfold ldK
  rw[dS,dS,dS,dS,if_neg (by omega),if_neg (by omega),if_neg (by omega),if_neg (by omega)]
  rw[hl,Nat.sub_self,Nat.add_sub_cancel_left,Nat.add_sub_cancel_left,Nat.add_sub_cancel_left]
  exact this
 ·have:=aX h i (by omega)
  unfold ldK at this⊢
  rw[dS,dS,dS,dS,if_pos (by omega),if_pos (by omega),if_pos (by omega),if_pos (by omega)]
  exact this
theorem a68 (n:Nat) (xs:List Int) (hn:n≤8) (hx:xs.length=n*4) (hf:aA xs=true):
  aN none Tryz.prog 0 (.block 0 (.loop (a5 0 (a0 f161)))) (CB n xs 0 0 [] [] 0) fun e t=>e=.normal∧t=LO (eS xs n).2.length (eS xs n).2.length (eS xs n).1 (eS xs n).2:=by
 refine aN.roundsN (ro:=none) hT t17 bF (m:=0) (id:=0) (body:=a5 0 (a0 f161)) (α:=Nat×List Int×List Int)
  (fun x=>x.1≤n∧x.2.2.length≤x.1∧x.2.1.length=x.2.2.length*12∧aA x.2.1=true∧tD x.2.1 x.2.2.length=true∧fO xs (n-x.1) x.1 x.2=eS xs n)
  (fun x=>CB n xs x.2.2.length x.2.2.length x.2.1 x.2.2 x.1) (fun x=>n-x.1) (a6 f161 0) (a8 f161 0)
  (fun _=>LO (eS xs n).2.length (eS xs n).2.length (eS xs n).1 (eS xs n).2) (fun _=>[]) (fun _ _=>aK.nil) (fun x hx=> ?_) (0,[],[]) ⟨by simp,by simp,rfl,rfl,rfl,rfl⟩
 obtain⟨i,ys,ps⟩:=x
 obtain⟨h1,h2,h3,h4,h5,h6⟩:=hx
 dsimp only at h1 h2 h3 h4 h5 h6⊢
 by_cases hi:i<n
 ·have hkk:n-i=(n-(i+1))+1:=by omega
  rw[hkk]at h6
  simp only[fO]at h6
  have hK:=QA hf ys ps.length i
  by_cases hz:ld4 (KK xs ys ps.length i)<0
  ·rw[decide_eq_true hz,cond_true]at h6
   refine⟨_,_,_,_,_,_,TB n xs ps.length ps.length ys ps i (by omega), ?_,by simp,.inl ⟨rfl,(i+1,ys,ps),⟨by omega,by dsimp only;omega,h3,h4,h5,h6⟩,by dsimp only;omega,rfl,rfl⟩⟩
   simp only[h4,h5,sZ hf,Bool.and_true,rpS,Bool.true_and,Bool.and_eq_true,decide_eq_true_eq]
   omega
  ·rw[decide_eq_false hz,cond_false]at h6
   have h0:0≤ld4 (KK xs ys ps.length i):=by omega
   have hb:ld4 (KK xs ys ps.length i)≤3:=by rcases w3 h0 with h|h|h|h<;>omega
   refine⟨_,_,_,_,_,_,TC n xs ps.length ps.length ys ps i (by omega), ?_,by simp,
    .inl ⟨rfl,(i+1,ys++nK (KK xs ys ps.length i),ps++[(i:Int)]),⟨by omega,by simp;omega,by simp[AA];omega,eB h4 (A9 _), ?_,h6⟩,by dsimp only;omega, ?_,rfl⟩⟩
   ·simp only[h4,h5,sZ hf,aT hK,M3 hK,cI,rA,Bool.and_true,rpS,Bool.true_and,Bool.and_eq_true,decide_eq_true_eq,Bool.not_eq_true',decide_eq_false_iff_not,true_and,and_true]
    omega
   ·dsimp only;rw[List.length_append];exact FD h3 h5 hK h0
   ·dsimp only;rw[List.length_append];rfl
 ·have hz:n-i=0:=by omega
  rw[hz]at h6
  simp only[fO]at h6
  exact⟨_,_,_,_,_,_,TE n xs ps.length ps.length ys ps i,by simp;omega,by simp,.inr ⟨rfl,by rw[←h6]⟩⟩
noncomputable def L6 (n:Nat) (xs:List Int):St:=
 aR f161.ntmps [(3,.c (.ptr 0 0 0 0)),(12,.c (.view none (.ints .i64 xs) n 4 none)),(13,.c (.int .i64 n)),(14,.c (.int .i64 0))] [.live (.cells [.nils,.nils])]
def C4:aM:=fun args h=>
 match args,h with
 |[.c (.view _ (.ints .i64 xs) n 4 _)],[]=>
  some (.c (.ptr 0 0 0 0),[.live (.cells [.sl 1 0 (eS xs n).2.length 12 none,.sl 2 0 (eS xs n).2.length 1 none]),.live (.ints .i64 (eS xs n).1),.live (.ints .i64 (eS xs n).2)],[decide (n≤8),aA xs])
 |_,_=>none
theorem a80:aS Tryz.prog 256 C4:=by
 intro args h res h' o hnorm he ho
 unfold C4 at he
 split at he
 case h_2=>cases he
 rename_i nl xs n cap
 simp only[Option.some.injEq,Prod.mk.injEq]at he
 obtain⟨rfl,rfl,rfl⟩:=he
 simp only[List.mem_cons,List.not_mem_nil,or_false,forall_eq_or_imp,forall_eq,decide_eq_true_eq]at ho
 obtain⟨o1,o2⟩:=ho
 simp only[b8,AV.norm,bA,aF.norm,Con.size,List.cons.injEq,AV.c.injEq,AV.agg.injEq,aF.view.injEq,aL,true_and,and_true]at hnorm
 obtain⟨hn1,hn2,hn3⟩:=hnorm
 refine bE.len ⟨f161,by kernel_rfl,by kernel_rfl,by kernel_rfl⟩ fun hlen=> ?_
 simp only[List.mem_cons,List.not_mem_nil,or_false,forall_eq,AV.lenOk,aF.lenOk,Con.size]at hlen
 subst hn1 hn3
 have g:=(a68 n xs o1 hlen.symm o2).pre (s:=L6 n xs) ((f8.nilH 0 0 0 12 (.ints .i64 []) rfl _).trans (f8.nilH 0 0 1 1 (.ints .i64 []) rfl _))
 exact c8 t17 (fn:=f161) (lc:=[(0,⟨a6 f161 0,L6 n xs,.normal,LO (eS xs n).2.length (eS xs n).2.length (eS xs n).1 (eS xs n).2⟩)]) (fuel:=100) (p:=[])
  (o:=⟨_,_,true,[L6 n xs=L6 n xs]⟩)
  (by kernel_rfl) (by kernel_rfl) (by kernel_rfl) rfl (by simp) (fun cc hc=>aK.cons (c:=cc) (by cases hc;kernel_rfl) (by cases hc;exact g) aK.nil)
end
section
def T18:List aZ:=[⟨256,[],nm C4⟩]++T17
theorem e18:a7 Tryz.prog T18:=by
 refine a7.append ?_ e17
 intro e he
 simp only[List.mem_cons,List.not_mem_nil,or_false]at he
 subst he;exact a80.ok
theorem t18:bK Tryz.prog (a9 T18):=aO e18
theorem VD (xs:List Int) (n:Nat):aE tt (a9 T18) [] 100 Tryz.f254 [.c (.view none (.ints .i64 xs) n 4 none)] [] []=
  some ⟨.c (.int .i64 (↑(eS xs n).snd.length:Int)),[],(decide (n≤8)&&((aA xs)&&true)),[]⟩:=by kernel_rfl
def K5 (xs:List Int) (n:Nat):Nat:=(eS xs n).2.length
def BU:aM:=fun args h=>
 match args,h with
 |[.c (.view _ (.ints .i64 xs) n 4 _)],[]=>
  some (.c (.int .i64 (K5 xs n)),[],[decide (n≤8),aA xs])
 |_,_=>none
theorem a7Y:aS Tryz.prog 254 BU:=by
 intro args h res h' o hnorm he ho
 unfold BU at he
 split at he
 case h_2=>cases he
 rename_i nl xs n cap
 simp only[Option.some.injEq,Prod.mk.injEq]at he
 obtain⟨rfl,rfl,rfl⟩:=he
 simp only[List.mem_cons,List.not_mem_nil,or_false,forall_eq_or_imp,forall_eq,decide_eq_true_eq]at ho
 obtain⟨o1,o2⟩:=ho
 simp only[b8,AV.norm,bA,aF.norm,Con.size,List.cons.injEq,AV.c.injEq,AV.agg.injEq,aF.view.injEq,aL,true_and,and_true]at hnorm
 obtain⟨hn1,hn2,hn3⟩:=hnorm
 subst hn1 hn3
 exact mo t18 (VD xs n) (by simp[o1,o2])
def T19:List aZ:=[⟨254,[],nm BU⟩]++T18
theorem e19:a7 Tryz.prog T19:=by
 refine a7.append ?_ e18
 intro e he
 simp only[List.mem_cons,List.not_mem_nil,or_false]at he
 subst he;exact a7Y.ok
theorem t19:bK Tryz.prog (a9 T19):=aO e19
theorem V4 (k:Int) (v:List Int):aE tt (a9 T19) [] 100 Tryz.f220 [.c (.int .i64 k),.c (.view none (.ints .i64 v) v.length 1 none)] [] []=
  some ⟨.c (.bool ((↑(K5 (fY k v) v.length):Int)==4)),[],(decide (v.length≤274877906944)&&(bet k 1 2&&(bC v&&(decide (v.length*4=(fY k v).length)&&(decide (v.length≤8)&&((aA (fY k v))&&true)))))),[]⟩:=by kernel_rfl
def c7 (k:Int) (v:List Int):Bool:=(K5 (fY k v) v.length:Int)==4
def wO:aM:=fun args h=>
 match args,h with
 |[.c (.int .i64 k),.c (.view _ (.ints .i64 v) n 1 _)],[]=>
  some (.c (.bool (c7 k v)),[],[decide (v.length≤8),bet k 1 2,bC v])
 |_,_=>none
theorem KE {k a:Int} (hk:bet k 1 2=true) (ha:bet a 0 7=true):aA (AJ k a)=true:=by
 refine JX (q:=fun k a=>aA (AJ k a)=true) (fun i hi=> ?_) hk ha
 have all:cN (fun k=>aA (AJ ((k/8:Nat)+1:Int) (k%8:Nat))) 16=true:=by kernel_rfl
 exact aX all i hi
theorem tV {k:Int} (hk:bet k 1 2=true) {v:List Int} (hv:bC v=true): ∀m i,i+m≤v.length→aA (j7 k v m i)=true
 |0,_,_=>rfl
 |m+1,i,h=>eB (KE hk (d8 hv (by omega))) (tV hk hv m (i+1) (by omega))
theorem p7 {k:Int} (hk:bet k 1 2=true) {v:List Int} (hv:bC v=true):aA (fY k v)=true:=tV hk hv _ _ (by omega)
theorem tW (k:Int) (v:List Int): ∀m i,(j7 k v m i).length=m*4
 |0,_=>by simp[j7]
 |m+1,i=>by simp[j7,AJ,tW k v m (i+1)];omega
theorem wD (k:Int) (v:List Int):(fY k v).length=v.length*4:=tW k v _ _
theorem a7H:aS Tryz.prog 220 wO:=by
 intro args h res h' o hnorm he ho
 unfold wO at he
 split at he
 case h_2=>cases he
 rename_i k nl v n cap
 simp only[Option.some.injEq,Prod.mk.injEq]at he
 obtain⟨rfl,rfl,rfl⟩:=he
 simp only[List.mem_cons,List.not_mem_nil,or_false,forall_eq_or_imp,forall_eq,decide_eq_true_eq]at ho
 obtain⟨o1,o2,o3⟩:=ho
 simp only[b8,AV.norm,bA,aF.norm,Con.size,List.cons.injEq,AV.c.injEq,AV.agg.injEq,aF.view.injEq,aL,true_and,and_true]at hnorm
 obtain⟨rfl,rfl,rfl⟩:=hnorm
 exact mo t19 (V4 k v) (by simp[o1,o2,o3,p7,wD];omega)
end
section
def bH {β:Type} (step:Nat→β→β):Nat→Nat→β→β
 |0,_,b=>b
 |f+1,i,b=>bH step f (i+1) (step i b)
def cD {β γ:Type} (step:Nat→β→β⊕γ):Nat→Nat→β→β⊕γ
 |0,_,b=> .inl b
 |f+1,i,b=>match step i b with
  |.inl b'=>cD step f (i+1) b'
  |.inr c=> .inr c
theorem tY {β:Type} {step:Nat→β→β} (Inv:Nat→β→Prop): ∀(f i:Nat) (b:β),Inv i b→(∀k b,i≤k→k<i+f→Inv k b→Inv (k+1) (step k b))→Inv (i+f) (bH step f i b)
 |0,i,b,h,_=>h
 |f+1,i,b,h,hs=>by
  have:=tY (step:=step) Inv f (i+1) (step i b) (hs i b (Nat.le_refl _) (by omega) h) (fun k b h1 h2=>hs k b (by omega) (by omega))
  rw[show i+(f+1)=i+1+f from by omega]
  exact this
theorem aY {β:Type} {step:Nat→β→β} (Inv:Nat→β→Prop) (n:Nat) (b:β) (h:Inv 0 b) (hs: ∀k b,k<n→Inv k b→Inv (k+1) (step k b)):Inv n (bH step n 0 b):=by
 have:=tY Inv n 0 b h (fun k b _ h2=>hs k b (by omega))
 rwa[Nat.zero_add]at this
theorem tX {β:Type} {s s':Nat→β→β}: ∀(f i:Nat) (b:β),(∀k b,i≤k→k<i+f→s k b=s' k b)→bH s f i b=bH s' f i b
 |0,_,_,_=>rfl
 |f+1,i,b,h=>by
  simp only[bH]
  rw[h i b (Nat.le_refl _) (by omega)]
  exact tX f (i+1) _ fun k b h1 h2=>h k b (by omega) (by omega)
def cH (f:Nat→Bool):Nat→Nat→Bool
 |0,_=>true
 |n+1,i=>f i&&cH f n (i+1)
theorem cC {f:Nat→Bool}: ∀ {n i:Nat},cH f n i=true↔ ∀k,i≤k→k<i+n→f k=true
 |0,i=>⟨fun _ k h1 h2=>absurd h1 (by omega),fun _=>rfl⟩
 |n+1,i=>by
  simp only[cH,Bool.and_eq_true,rpS,cC (n:=n) (i:=i+1)]
  constructor
  ·rintro⟨h1,h2⟩ k h3 h4
   by_cases e:k=i
   ·subst e;exact h1
   ·exact h2 k (by omega) (by omega)
  ·intro h
   exact⟨h i (Nat.le_refl _) (by omega),fun k h1 h2=>h k (by omega) (by omega)⟩
theorem AL (f:Nat→Bool): ∀(n i:Nat),cD (β:=Unit) (γ:=Unit) (fun i _=>bif f i then .inl ()else .inr ()) n i ()=bif cH f n i then .inl ()else .inr ()
 |0,i=>rfl
 |n+1,i=>by
  simp only[cD,cH]
  cases h:f i
  ·rfl
  ·exact AL f n (i+1)
inductive Rnd (m:Nat) (live liveX:List Nat) (r:Option Out) (ex:Ex) (s:St):Prop
 |mk (b:Bool) (q:List Prop) (h:aC m live liveX r=some (ex,b,q,s)) (hb:b=true) (hq: ∀x∈q,x)
section
variable {ro : Option Nat} {P : Program} {tt : Tab} (hT : iC P tt) {ct : CT} (hct : bK P ct) (bF : P.follows .mixedOrders = true)
include hT hct bF
theorem aN.count {m id:Nat} {body:Code} {β:Type} (n:Nat) (Inv:Nat→β→Prop) (I:Nat→β→St) (X:β→St) (step:Nat→β→β) (live liveX:List Nat) (lc:Nat→β→List (Nat×LC))
  (hlc: ∀i b,i<n→Inv i b→aK ro P m (lc i b) body)
  (hr: ∀i b,i<n→Inv i b→Inv (i+1) (step i b)∧ ∃f p,Rnd m live liveX (aD tt ct (lc i b) m f body (I i b) p) .normal (I (i+1) (step i b)))
  (hx: ∀b,Inv n b→ ∃f p,Rnd m live liveX (aD tt ct [] m f body (I n b) p) (.exit id) (X b)):
  ∀b,Inv 0 b→aN ro P m (.block id (.loop body)) (I 0 b) fun e t=>e=.normal∧t=X (bH step n 0 b):=by
 intro b hb
 refine aN.roundsN hT hct bF (m:=m) (id:=id) (body:=body) (α:=Nat×β) (fun x=>x.1≤n∧Inv x.1 x.2) (fun x=>I x.1 x.2) (fun x=>n-x.1) live liveX
  (fun x=>X (bH step (n-x.1) x.1 x.2)) (fun x=>if x.1<n then lc x.1 x.2 else []) (fun x h=>by
   split
   ·rename_i hi;exact hlc _ _ hi h.2
   ·exact aK.nil) (fun x hinv=> ?_) (0,b) ⟨Nat.zero_le _,hb⟩
 obtain⟨i,b⟩:=x
 obtain⟨h1,h2⟩:=hinv
 dsimp only at h1 h2⊢
 by_cases hi:i<n
 ·rw[if_pos hi]
  obtain⟨g1,f,p,⟨o,q,h,ho,hq⟩⟩:=hr i b hi h2
  refine⟨f,p,_,o,q,_,h,ho,hq,.inl ⟨rfl,(i+1,step i b),⟨by omega,g1⟩,by dsimp only;omega,rfl, ?_⟩⟩
  dsimp only
  rw[show n-i=(n-(i+1))+1 from by omega];rfl
 ·have e:i=n:=by omega
  subst e
  rw[if_neg hi]
  obtain⟨f,p,⟨o,q,h,ho,hq⟩⟩:=hx b h2
  exact⟨f,p,_,o,q,_,h,ho,hq,.inr ⟨rfl,by rw[Nat.sub_self];rfl⟩⟩
theorem aN.countE {m id:Nat} {body:Code} {β γ:Type} (n:Nat) (Inv:Nat→β→Prop) (I:Nat→β→St) (X:β→St) (Y:γ→St) (exY:Ex) (hexY:exY=.normal∨exY=.ret) (step:Nat→β→β⊕γ)
  (live liveX:List Nat) (lc:Nat→β→List (Nat×LC))
  (hlc: ∀i b,i<n→Inv i b→aK ro P m (lc i b) body)
  (hr: ∀i b,i<n→Inv i b→(∃b',step i b=.inl b'∧Inv (i+1) b'∧ ∃f p,Rnd m live liveX (aD tt ct (lc i b) m f body (I i b) p) .normal (I (i+1) b'))∨
   (∃c,step i b=.inr c∧ ∃f p,Rnd m live liveX (aD tt ct (lc i b) m f body (I i b) p) (if exY=.normal then .exit id else exY) (Y c)))
  (hx: ∀b,Inv n b→ ∃f p,Rnd m live liveX (aD tt ct [] m f body (I n b) p) (.exit id) (X b)):
  ∀b,Inv 0 b→aN ro P m (.block id (.loop body)) (I 0 b) fun e t=>match cD step n 0 b with
   |.inl b'=>e=.normal∧t=X b'
   |.inr c=>e=exY∧t=Y c:=by
 intro b hb
 have key:=aN.roundsR hT hct bF (m:=m) (id:=id) (body:=body) (α:=Nat×β) (fun x=>x.1≤n∧Inv x.1 x.2) (fun x=>I x.1 x.2) (fun x=>n-x.1) live liveX
  (fun x=>match cD step (n-x.1) x.1 x.2 with|.inl _=> .normal|.inr _=>exY) (fun x=>match cD step (n-x.1) x.1 x.2 with|.inl b'=>X b'|.inr c=>Y c)
  (fun x=>if x.1<n then lc x.1 x.2 else []) (fun x h=>by
   split
   ·rename_i hi;exact hlc _ _ hi h.2
   ·exact aK.nil) (fun x hinv=> ?_) (0,b) ⟨Nat.zero_le _,hb⟩
 ·refine aN.mono key fun e t h=> ?_
  dsimp only[Nat.sub_zero]at h
  revert h
  cases cD step n 0 b<;>exact fun h=>h
 ·obtain⟨i,b⟩:=x
  obtain⟨h1,h2⟩:=hinv
  dsimp only at h1 h2⊢
  by_cases hi:i<n
  ·rw[if_pos hi]
   have hk:n-i=(n-(i+1))+1:=by omega
   rcases hr i b hi h2 with⟨b',hs,g1,f,p,⟨o,q,h,ho,hq⟩⟩|⟨c,hs,f,p,⟨o,q,h,ho,hq⟩⟩
   ·refine⟨f,p,_,o,q,_,h,ho,hq,.inl ⟨rfl,(i+1,b'),⟨by omega,g1⟩,by dsimp only;omega,rfl, ?_, ?_⟩⟩
    ·dsimp only;rw[hk];simp only[cD,hs]
    ·dsimp only;rw[hk];simp only[cD,hs]
   ·have e1:cD step (n-i) i b=.inr c:=by rw[hk];simp only[cD,hs]
    rw[e1]
    rcases hexY with e|e
    ·subst e
     rw[if_pos rfl]at h
     exact⟨f,p,_,o,q,_,h,ho,hq,.inr (.inl ⟨rfl,rfl,rfl⟩)⟩
    ·subst e
     rw[if_neg (by intro h;cases h)]at h
     exact⟨f,p,_,o,q,_,h,ho,hq,.inr (.inr ⟨(by intro h;cases h),(by intro h;cases h),rfl,rfl⟩)⟩
  ·have e:i=n:=by omega
   subst e
   rw[if_neg hi]
   obtain⟨f,p,⟨o,q,h,ho,hq⟩⟩:=hx b h2
   have e1:cD step (i-i) i b=.inl b:=by rw[Nat.sub_self];rfl
   rw[e1]
   exact⟨f,p,_,o,q,_,h,ho,hq,.inr (.inl ⟨rfl,rfl,rfl⟩)⟩
theorem aN.all {m id:Nat} {body:Code} (n:Nat) (f:Nat→Bool) (I:Nat→St) (X Y:St) (exY:Ex) (hexY:exY=.normal∨exY=.ret) (live liveX:List Nat) (lc:Nat→List (Nat×LC))
  (hlc: ∀i,i<n→aK ro P m (lc i) body)
  (ht: ∀i,i<n→f i=true→ ∃g p,Rnd m live liveX (aD tt ct (lc i) m g body (I i) p) .normal (I (i+1)))
  (hf: ∀i,i<n→f i=false→ ∃g p,Rnd m live liveX (aD tt ct (lc i) m g body (I i) p) (if exY=.normal then .exit id else exY) Y)
  (hx: ∃g p,Rnd m live liveX (aD tt ct [] m g body (I n) p) (.exit id) X):
  aN ro P m (.block id (.loop body)) (I 0) fun e t=>e=(bif cH f n 0 then .normal else exY)∧t=bif cH f n 0 then X else Y:=by
 have key:=aN.countE hT hct bF (m:=m) (id:=id) (body:=body) (β:=Unit) (γ:=Unit) n (fun _ _=>True) (fun i _=>I i) (fun _=>X) (fun _=>Y) exY hexY (fun i _=>bif f i then .inl ()else .inr ())
  live liveX (fun i _=>lc i) (fun i _ h _=>hlc i h) (fun i _ hi _=> ?_) (fun _ _=>hx) () trivial
 ·refine aN.mono key fun e t h=> ?_
  rw[AL]at h
  revert h
  cases cH f n 0<;>exact fun h=>h
 ·cases h:f i with
  |true=>exact .inl ⟨(),rfl,trivial,ht i hi h⟩
  |false=>exact .inr ⟨(),rfl,hf i hi h⟩
end
end
section
def T20:List aZ:=[⟨220,[],nm wO⟩]++T19
theorem e20:a7 Tryz.prog T20:=by
 refine a7.append ?_ e19
 intro e he
 simp only[List.mem_cons,List.not_mem_nil,or_false]at he
 subst he;exact a7H.ok
theorem t20:bK Tryz.prog (a9 T20):=aO e20
noncomputable abbrev bT:=Tryz.f221
def lG (ys:List Int) (i:Nat):List Int:=[ys.getD (i*12+0) 0,ys.getD (i*12+1) 0,ys.getD (i*12+2) 0,ys.getD (i*12+3) 0,ys.getD (i*12+4) 0,ys.getD (i*12+5) 0,ys.getD (i*12+6) 0,ys.getD (i*12+7) 0,ys.getD (i*12+8) 0,ys.getD (i*12+9) 0,ys.getD (i*12+10) 0,ys.getD (i*12+11) 0]
noncomputable def pO (w v ys:List Int) (r:Nat) (n:Nat) (zs:List Int) (i:Int):St:=
 aR bT.ntmps [(1,.c (.view none (.ints .i64 w) w.length 1 none)),(2,.c (.view none (.ints .i64 v) v.length 1 none)),(6,.c (.ptr 0 0 0 0)),(7,.c (.ptr 1 0 0 0)),(9,.c (.sl 2 0 n 5 none)),
  (29,.c (.sl 3 0 r 12 none)),(30,.c (.int .i64 r)),(31,.c (.int .i64 i))]
  [.live (.ints .i64 [0,0,0,0]),.live (.ints .i64 [0,0,0,0]),.live (.ints .i64 zs),.live (.ints .i64 ys)]
noncomputable def mM (w v ys:List Int) (r n:Nat) (zs kk:List Int) (i val j:Int):St:=
 aR bT.ntmps [(1,.c (.view none (.ints .i64 w) w.length 1 none)),(2,.c (.view none (.ints .i64 v) v.length 1 none)),(6,.c (.ptr 0 0 0 0)),(7,.c (.ptr 1 0 0 0)),(9,.c (.sl 2 0 n 5 none)),
  (11,.c (.ptr 3 0 0 0)),(12,.c (.int .i64 val)),(29,.c (.sl 4 0 r 12 none)),(30,.c (.int .i64 r)),(31,.c (.int .i64 i)),(35,.c (.view none (.ints .i64 v) v.length 1 none)),(36,.c (.int .i64 v.length)),
  (37,.c (.int .i64 j))]
  [.live (.ints .i64 [0,0,0,0]),.live (.ints .i64 [0,0,0,0]),.live (.ints .i64 zs),.live (.ints .i64 kk),.live (.ints .i64 ys)]
noncomputable def yZ (w v ys:List Int) (r n:Nat) (zs kk:List Int) (i val:Int):St:=
 aR bT.ntmps [(1,.c (.view none (.ints .i64 w) w.length 1 none)),(2,.c (.view none (.ints .i64 v) v.length 1 none)),(6,.c (.ptr 0 0 0 0)),(7,.c (.ptr 1 0 0 0)),(9,.c (.sl 2 0 n 5 none)),
  (11,.c (.ptr 3 0 0 0)),(12,.c (.int .i64 val)),(29,.c (.sl 4 0 r 12 none)),(30,.c (.int .i64 r)),(31,.c (.int .i64 i))]
  [.live (.ints .i64 [0,0,0,0]),.live (.ints .i64 [0,0,0,0]),.live (.ints .i64 zs),.live (.ints .i64 kk),.live (.ints .i64 ys)]
noncomputable def DR (zs:List Int) (n:Nat):St:=
 aR bT.ntmps [(6,.c (.ptr 0 0 0 0)),(7,.c (.ptr 1 0 0 0)),(9,.c (.sl 2 0 n 5 none))]
  [.live (.ints .i64 [0,0,0,0]),.live (.ints .i64 [0,0,0,0]),.live (.ints .i64 zs)]
theorem NA (w v ys:List Int) (r n:Nat) (zs kk:List Int) (i val j:Int):aC 0 (a6 bT 2) (a8 bT 2) (aD tt (a9 T20) [] 0 100 (a5 2 (a0 bT)) (mM w v ys r n zs kk i val j) [(0,true)])=
  some (.normal,(decide (j<(↑v.length:Int))&&(decide (0≤j)&&(decide (j<(↑v.length:Int))&&(decide (j.toNat<v.length)&&(decide (0≤j)&&(decide (j<8)&&(decide (j.toNat*1+4<kk.length)&&(decide (0≤v.getD j.toNat 0)&&(decide (v.getD j.toNat 0<(↑w.length:Int))&&(decide ((v.getD j.toNat 0).toNat<w.length)&&(fok (kk.getD (j.toNat*1+4) 0)&&(fok (w.getD (v.getD j.toNat 0).toNat 0)&&(fok val&&((fok (kk.getD (j.toNat*1+4) 0*w.getD (v.getD j.toNat 0).toNat 0%31))&&true)))))))))))))),[],mM w v ys r n zs kk i ((val+kk.getD (j.toNat*1+4) 0*w.getD (v.getD j.toNat 0).toNat 0%31)%31) (IntKind.i64.wrap (j+1))):=by kernel_rfl
theorem NB (w v ys:List Int) (r n:Nat) (zs kk:List Int) (i val j:Int):aC 0 (a6 bT 2) (a8 bT 2) (aD tt (a9 T20) [] 0 100 (a5 2 (a0 bT)) (mM w v ys r n zs kk i val j) [(0,false)])=
  some (.exit 2,((!decide (j<(↑v.length:Int)))&&true),[],yZ w v ys r n zs kk i (val)):=by kernel_rfl
theorem N8 (w v ys:List Int) (r n:Nat) (zs:List Int) (i val:Int):aC 0 (a6 bT 0) (a8 bT 0) (aD tt (a9 T20) [(2,⟨a6 bT 2,mM w v ys r n zs (lG ys i.toNat) i 0 0,.normal,yZ w v ys r n zs (lG ys i.toNat) i val⟩)] 0 100 (a5 0 (a0 bT)) (pO w v ys r n zs i) [(0,true)])=
  some (.normal,(decide (i<(↑r:Int))&&(decide (0≤i)&&(decide (i<(↑r:Int))&&(decide (i.toNat*12+12≤ys.length)&&(decide (n*5=zs.length)&&((decide (n+1≤274877906944))&&true)))))),[mM w v ys r n zs (lG ys i.toNat) i 0 0=mM w v ys r n zs (lG ys i.toNat) i 0 0],pO w v ys r (n+1) (zs++[ys.getD (i.toNat*12) 0,ys.getD (i.toNat*12+1) 0,ys.getD (i.toNat*12+2) 0,ys.getD (i.toNat*12+3) 0,val]) (IntKind.i64.wrap (i+1))):=by kernel_rfl
theorem N9 (w v ys:List Int) (r n:Nat) (zs:List Int) (i val:Int) (lcv:List (Nat×LC)):aC 0 (a6 bT 0) (a8 bT 0) (aD tt (a9 T20) lcv 0 100 (a5 0 (a0 bT)) (pO w v ys r n zs i) [(0,false)])=
  some (.exit 0,((!decide (i<(↑r:Int)))&&true),[],DR (zs) (n)):=by kernel_rfl
def KP (zs:List Int) (j:Nat) (a b c d:Int):List Int:=(((zs.set (j*5) a).set (j*5+1) b).set (j*5+2) c).set (j*5+3) d
def elC (zs:List Int) (at_:Int) (j:Nat):Int:=zs.getD (j*5+at_.toNat*1) 0
def elE (zs:List Int) (i j:Nat) (at_:Int) (q:Nat):Int:=(zs.getD (j*5+q) 0+zs.getD (i*5+q) 0*elC zs at_ j%31*30%31)%31
def lI (zs:List Int) (i:Nat) (at_:Int) (j:Nat):List Int:=KP zs j (elE zs i j at_ 0) (elE zs i j at_ 1) (elE zs i j at_ 2) (elE zs i j at_ 3)
def mS (zs:List Int) (i:Nat) (at_:Int) (j:Nat):List Int:=
 (lI zs i at_ j).set (j*5+4) (((lI zs i at_ j).getD (j*5+4) 0-(lI zs i at_ j).getD (i*5+4) 0*elC zs at_ j%31)%31)
def ld5 (zs:List Int) (i:Nat):Int:=eD (fun x=>x !=0) [zs.getD (i*5) 0,zs.getD (i*5+1) 0,zs.getD (i*5+2) 0,zs.getD (i*5+3) 0]
noncomputable def pP (n:Nat) (zs:List Int) (i:Int):St:=
 aR bT.ntmps [(6,.c (.ptr 0 0 0 0)),(7,.c (.ptr 1 0 0 0)),(9,.c (.sl 2 0 n 5 none)),(63,.c (.int .i64 n)),(64,.c (.int .i64 i))]
  [.live (.ints .i64 [0,0,0,0]),.live (.ints .i64 [0,0,0,0]),.live (.ints .i64 zs)]
noncomputable def iA (n:Nat) (zs:List Int) (i at_ j:Int):St:=
 aR bT.ntmps [(6,.c (.ptr 0 0 0 0)),(7,.c (.ptr 1 0 0 0)),(9,.c (.sl 2 0 n 5 none)),(15,.c (.int .i64 i)),(16,.c (.int .i64 at_)),(63,.c (.int .i64 n)),(64,.c (.int .i64 i)),(74,.c (.int .i64 n)),
  (75,.c (.int .i64 j))]
  [.live (.ints .i64 [0,0,0,0]),.live (.ints .i64 [0,0,0,0]),.live (.ints .i64 zs)]
noncomputable def z0 (n:Nat) (zs:List Int) (i:Int):St:=
 aR bT.ntmps [(6,.c (.ptr 0 0 0 0)),(7,.c (.ptr 1 0 0 0)),(9,.c (.sl 2 0 n 5 none)),(63,.c (.int .i64 n)),(64,.c (.int .i64 i))]
  [.live (.ints .i64 [0,0,0,0]),.live (.ints .i64 [0,0,0,0]),.live (.ints .i64 zs)]
noncomputable def DS (n:Nat) (zs:List Int):St:=
 aR bT.ntmps [(6,.c (.ptr 0 0 0 0)),(7,.c (.ptr 1 0 0 0)),(9,.c (.sl 2 0 n 5 none))]
  [.live (.ints .i64 [0,0,0,0]),.live (.ints .i64 [0,0,0,0]),.live (.ints .i64 zs)]
theorem NE (n:Nat) (zs:List Int) (i at_ j:Int):aC 0 (a6 bT 6) (a8 bT 6) (aD tt (a9 T20) [] 0 100 (a5 6 (a0 bT)) (iA n zs i at_ j) [(0,true),(0,true),(0,true)])=
  some (.normal,(decide (j<(↑n:Int))&&(decide (0≤j)&&(decide (j<(↑n:Int))&&(decide (0≤at_)&&(decide (at_<4)&&(decide (j.toNat*5+at_.toNat*1<zs.length)&&(rp2 (j !=i) ((bif j !=i then zs.getD (j.toNat*5+at_.toNat*1) 0 !=0 else false)&&(decide (0≤j)&&(decide (j<(↑n:Int))&&(decide (j.toNat*5+4≤zs.length)&&(decide (0≤i)&&(decide (i<(↑n:Int))&&(decide (i.toNat*5+4≤zs.length)&&(fok (zs.getD (i.toNat*5) 0)&&(fok (zs.getD (j.toNat*5+at_.toNat*1) 0)&&(fok (zs.getD (i.toNat*5+1) 0)&&(fok (zs.getD (j.toNat*5+at_.toNat*1) 0)&&(fok (zs.getD (i.toNat*5+2) 0)&&(fok (zs.getD (j.toNat*5+at_.toNat*1) 0)&&(fok (zs.getD (i.toNat*5+3) 0)&&(fok (zs.getD (j.toNat*5+at_.toNat*1) 0)&&(fok (zs.getD (j.toNat*5) 0)&&(fok (zs.getD (i.toNat*5) 0*zs.getD (j.toNat*5+at_.toNat*1) 0%31)&&(fok (zs.getD (j.toNat*5+1) 0)&&(fok (zs.getD (i.toNat*5+1) 0*zs.getD (j.toNat*5+at_.toNat*1) 0%31)&&(fok (zs.getD (j.toNat*5+2) 0)&&(fok (zs.getD (i.toNat*5+2) 0*zs.getD (j.toNat*5+at_.toNat*1) 0%31)&&(fok (zs.getD (j.toNat*5+3) 0)&&(fok (zs.getD (i.toNat*5+3) 0*zs.getD (j.toNat*5+at_.toNat*1) 0%31)&&(decide (0≤j)&&(decide (j<(↑n:Int))&&(decide (j.toNat*5+4≤zs.length)&&(decide (0≤j)&&(decide (j<(↑n:Int))&&(decide (j.toNat*5+4<((((zs.set (j.toNat*5) ((zs.getD (j.toNat*5) 0+zs.getD (i.toNat*5) 0*zs.getD (j.toNat*5+at_.toNat*1) 0%31*30%31)%31)).set (j.toNat*5+1) ((zs.getD (j.toNat*5+1) 0+zs.getD (i.toNat*5+1) 0*zs.getD (j.toNat*5+at_.toNat*1) 0%31*30%31)%31)).set (j.toNat*5+2) ((zs.getD (j.toNat*5+2) 0+zs.getD (i.toNat*5+2) 0*zs.getD (j.toNat*5+at_.toNat*1) 0%31*30%31)%31)).set (j.toNat*5+3) ((zs.getD (j.toNat*5+3) 0+zs.getD (i.toNat*5+3) 0*zs.getD (j.toNat*5+at_.toNat*1) 0%31*30%31)%31)).length)&&(decide (0≤i)&&(decide (i<(↑n:Int))&&(decide (i.toNat*5+4<((((zs.set (j.toNat*5) ((zs.getD (j.toNat*5) 0+zs.getD (i.toNat*5) 0*zs.getD (j.toNat*5+at_.toNat*1) 0%31*30%31)%31)).set (j.toNat*5+1) ((zs.getD (j.toNat*5+1) 0+zs.getD (i.toNat*5+1) 0*zs.getD (j.toNat*5+at_.toNat*1) 0%31*30%31)%31)).set (j.toNat*5+2) ((zs.getD (j.toNat*5+2) 0+zs.getD (i.toNat*5+2) 0*zs.getD (j.toNat*5+at_.toNat*1) 0%31*30%31)%31)).set (j.toNat*5+3) ((zs.getD (j.toNat*5+3) 0+zs.getD (i.toNat*5+3) 0*zs.getD (j.toNat*5+at_.toNat*1) 0%31*30%31)%31)).length)&&(fok (((((zs.set (j.toNat*5) ((zs.getD (j.toNat*5) 0+zs.getD (i.toNat*5) 0*zs.getD (j.toNat*5+at_.toNat*1) 0%31*30%31)%31)).set (j.toNat*5+1) ((zs.getD (j.toNat*5+1) 0+zs.getD (i.toNat*5+1) 0*zs.getD (j.toNat*5+at_.toNat*1) 0%31*30%31)%31)).set (j.toNat*5+2) ((zs.getD (j.toNat*5+2) 0+zs.getD (i.toNat*5+2) 0*zs.getD (j.toNat*5+at_.toNat*1) 0%31*30%31)%31)).set (j.toNat*5+3) ((zs.getD (j.toNat*5+3) 0+zs.getD (i.toNat*5+3) 0*zs.getD (j.toNat*5+at_.toNat*1) 0%31*30%31)%31)).getD (i.toNat*5+4) 0)&&(fok (zs.getD (j.toNat*5+at_.toNat*1) 0)&&(fok (((((zs.set (j.toNat*5) ((zs.getD (j.toNat*5) 0+zs.getD (i.toNat*5) 0*zs.getD (j.toNat*5+at_.toNat*1) 0%31*30%31)%31)).set (j.toNat*5+1) ((zs.getD (j.toNat*5+1) 0+zs.getD (i.toNat*5+1) 0*zs.getD (j.toNat*5+at_.toNat*1) 0%31*30%31)%31)).set (j.toNat*5+2) ((zs.getD (j.toNat*5+2) 0+zs.getD (i.toNat*5+2) 0*zs.getD (j.toNat*5+at_.toNat*1) 0%31*30%31)%31)).set (j.toNat*5+3) ((zs.getD (j.toNat*5+3) 0+zs.getD (i.toNat*5+3) 0*zs.getD (j.toNat*5+at_.toNat*1) 0%31*30%31)%31)).getD (j.toNat*5+4) 0)&&(fok (((((zs.set (j.toNat*5) ((zs.getD (j.toNat*5) 0+zs.getD (i.toNat*5) 0*zs.getD (j.toNat*5+at_.toNat*1) 0%31*30%31)%31)).set (j.toNat*5+1) ((zs.getD (j.toNat*5+1) 0+zs.getD (i.toNat*5+1) 0*zs.getD (j.toNat*5+at_.toNat*1) 0%31*30%31)%31)).set (j.toNat*5+2) ((zs.getD (j.toNat*5+2) 0+zs.getD (i.toNat*5+2) 0*zs.getD (j.toNat*5+at_.toNat*1) 0%31*30%31)%31)).set (j.toNat*5+3) ((zs.getD (j.toNat*5+3) 0+zs.getD (i.toNat*5+3) 0*zs.getD (j.toNat*5+at_.toNat*1) 0%31*30%31)%31)).getD (i.toNat*5+4) 0*zs.getD (j.toNat*5+at_.toNat*1) 0%31)&&(decide (0≤j)&&(decide (j<(↑n:Int))&&((decide (j.toNat*5+4<((((zs.set (j.toNat*5) ((zs.getD (j.toNat*5) 0+zs.getD (i.toNat*5) 0*zs.getD (j.toNat*5+at_.toNat*1) 0%31*30%31)%31)).set (j.toNat*5+1) ((zs.getD (j.toNat*5+1) 0+zs.getD (i.toNat*5+1) 0*zs.getD (j.toNat*5+at_.toNat*1) 0%31*30%31)%31)).set (j.toNat*5+2) ((zs.getD (j.toNat*5+2) 0+zs.getD (i.toNat*5+2) 0*zs.getD (j.toNat*5+at_.toNat*1) 0%31*30%31)%31)).set (j.toNat*5+3) ((zs.getD (j.toNat*5+3) 0+zs.getD (i.toNat*5+3) 0*zs.getD (j.toNat*5+at_.toNat*1) 0%31*30%31)%31)).length))&&true)))))))))))))))))))))))))))))))))))))))))))))),[],iA n (mS zs i.toNat at_ j.toNat) i at_ (IntKind.i64.wrap (j+1))):=by kernel_rfl
theorem NF (n:Nat) (zs:List Int) (i at_ j:Int):aC 0 (a6 bT 6) (a8 bT 6) (aD tt (a9 T20) [] 0 100 (a5 6 (a0 bT)) (iA n zs i at_ j) [(0,true),(0,true),(0,false)])=
  some (.normal,(decide (j<(↑n:Int))&&(decide (0≤j)&&(decide (j<(↑n:Int))&&(decide (0≤at_)&&(decide (at_<4)&&(decide (j.toNat*5+at_.toNat*1<zs.length)&&(rp2 (j !=i) ((!bif j !=i then zs.getD (j.toNat*5+at_.toNat*1) 0 !=0 else false)&&true)))))))),[],iA n (zs) i at_ (IntKind.i64.wrap (j+1))):=by kernel_rfl
theorem NG (n:Nat) (zs:List Int) (i at_ j:Int):aC 0 (a6 bT 6) (a8 bT 6) (aD tt (a9 T20) [] 0 100 (a5 6 (a0 bT)) (iA n zs i at_ j) [(0,true),(0,false)])=
  some (.normal,(decide (j<(↑n:Int))&&(decide (0≤j)&&(decide (j<(↑n:Int))&&(decide (0≤at_)&&(decide (at_<4)&&(decide (j.toNat*5+at_.toNat*1<zs.length)&&(rp3 (!j !=i) true))))))),[],iA n (zs) i at_ (IntKind.i64.wrap (j+1))):=by kernel_rfl
theorem NH (n:Nat) (zs:List Int) (i at_ j:Int):aC 0 (a6 bT 6) (a8 bT 6) (aD tt (a9 T20) [] 0 100 (a5 6 (a0 bT)) (iA n zs i at_ j) [(0,false)])=
  some (.exit 6,((!decide (j<(↑n:Int)))&&true),[],z0 n (zs) i):=by kernel_rfl
theorem NC (n:Nat) (zs ts:List Int) (i:Int):aC 0 (a6 bT 4) (a8 bT 4) (aD tt (a9 T20) [(6,⟨a6 bT 6,iA n zs i (ld5 zs i.toNat) 0,.normal,z0 n ts i⟩)] 0 100 (a5 4 (a0 bT)) (pP n zs i) [(0,true)])=
  some (.normal,(decide (i<(↑n:Int))&&(decide (0≤i)&&(decide (i<(↑n:Int))&&((decide (i.toNat*5+4≤zs.length))&&true)))),[iA n zs i (ld5 zs i.toNat) 0=iA n zs i (ld5 zs i.toNat) 0],pP n (ts) (IntKind.i64.wrap (i+1))):=by kernel_rfl
theorem ND (n:Nat) (zs ts:List Int) (i:Int) (lcv:List (Nat×LC)):aC 0 (a6 bT 4) (a8 bT 4) (aD tt (a9 T20) lcv 0 100 (a5 4 (a0 bT)) (pP n zs i) [(0,false)])=
  some (.exit 4,((!decide (i<(↑n:Int)))&&true),[],DS n (zs)):=by kernel_rfl
noncomputable def pQ (n:Nat) (zs out:List Int) (i:Int):St:=
 aR bT.ntmps [(6,.c (.ptr 0 0 0 0)),(7,.c (.ptr 1 0 0 0)),(128,.c (.sl 2 0 n 5 none)),(129,.c (.int .i64 n)),(130,.c (.int .i64 i))]
  [.live (.ints .i64 [0,0,0,0]),.live (.ints .i64 out),.live (.ints .i64 zs)]
noncomputable def DT (out:List Int):St:=
 aR bT.ntmps [(6,.c (.ptr 0 0 0 0)),(7,.c (.ptr 1 0 0 0))] [.live (.ints .i64 [0,0,0,0]),.live (.ints .i64 out)]
theorem NI (n:Nat) (zs out:List Int) (i:Int):aC 0 (a6 bT 8) (a8 bT 8) (aD tt (a9 T20) [] 0 100 (a5 8 (a0 bT)) (pQ n zs out i) [(0,true)])=
  some (.normal,(decide (i<(↑n:Int))&&(decide (0≤i)&&(decide (i<(↑n:Int))&&(decide (i.toNat*5+5≤zs.length)&&(decide (0≤ld5 zs i.toNat)&&(decide (ld5 zs i.toNat<4)&&((decide ((ld5 zs i.toNat).toNat<out.length))&&true))))))),[],pQ n zs (out.set (ld5 zs i.toNat).toNat (zs.getD (i.toNat*5+4) 0)) (IntKind.i64.wrap (i+1))):=by kernel_rfl
theorem NJ (n:Nat) (zs out:List Int) (i:Int):aC 0 (a6 bT 8) (a8 bT 8) (aD tt (a9 T20) [] 0 100 (a5 8 (a0 bT)) (pQ n zs out i) [(0,false)])=
  some (.exit 8,((!decide (i<(↑n:Int)))&&true),[],DT (out)):=by kernel_rfl
end
section
theorem bN {n lo hi:Int}:bet n lo hi=true↔lo≤n∧n≤hi:=by simp[bet]
def OL (w v kk:List Int) (j:Nat) (x:Int):Int:=(x+kk.getD (j*1+4) 0*w.getD (v.getD j 0).toNat 0%31)%31
def BA (w v kk:List Int):Int:=bH (OL w v kk) v.length 0 0
theorem Y2 (w v ys:List Int) (r n:Nat) (zs kk:List Int) (i:Int) (hv:v.length≤8) (hs:bC v=true) (hw:w.length=8) (hwf:aA w=true) (hk:kk.length=12) (hkf:aA kk=true):
  aN none Tryz.prog 0 (.block 2 (.loop (a5 2 (a0 bT)))) (mM w v ys r n zs kk i 0 0) fun e t=>e=.normal∧t=yZ w v ys r n zs kk i (BA w v kk):=by
 refine aN.count (ro:=none) hT t20 bF v.length (fun _ x=>fok x=true) (fun j x=>mM w v ys r n zs kk i x j) (fun x=>yZ w v ys r n zs kk i x) (OL w v kk) (a6 bT 2) (a8 bT 2)
  (fun _ _=>[]) (fun _ _ _ _=>aK.nil) (fun j x hj hx=>⟨c9 _, ?_⟩) (fun x hx=>⟨_,_,⟨_,_,NB w v ys r n zs kk i x v.length,by simp,by simp⟩⟩) 0 rfl
 ·have hb:=bN.1 (d8 hs hj)
  have e:=NA w v ys r n zs kk i x j
  rw[aB (by omega) (by omega),Int.toNat_natCast]at e
  refine⟨_,_,⟨_,_,e, ?_,by simp⟩⟩
  simp only[aT hkf,aT hwf,hx,c9,Bool.true_and,rpS,Bool.and_true,Bool.and_eq_true,decide_eq_true_eq]
  omega
def jL (w v ys:List Int) (i:Nat) (zs:List Int):List Int:=zs++[ys.getD (i*12) 0,ys.getD (i*12+1) 0,ys.getD (i*12+2) 0,ys.getD (i*12+3) 0,BA w v (lG ys i)]
def lS (w v ys:List Int) (r:Nat):List Int:=bH (jL w v ys) r 0 []
theorem KF {ys:List Int} (h:aA ys=true) (i:Nat):aA (lG ys i)=true:=by
 simp only[aA,lG,List.all_cons,List.all_nil,aT h,Bool.and_self]
theorem KO {step:Nat→Int→Int} (f i:Nat) (b:Int) (hb:fok b=true) (h: ∀k x,fok (step k x)=true):fok (bH step f i b)=true:=
 tY (fun _ x=>fok x=true) f i b hb fun k x _ _ _=>h k x
theorem KZ (w v kk:List Int):fok (BA w v kk)=true:=KO _ _ _ rfl fun _ _=>c9 _
theorem B8 {w v ys:List Int} (hy:aA ys=true) {i:Nat} {zs:List Int} (h:zs.length=i*5∧aA zs=true):(jL w v ys i zs).length=(i+1)*5∧aA (jL w v ys i zs)=true:=by
 refine⟨by simp[jL,h.1];omega,eB h.2 ?_⟩
 simp only[aA,List.all_cons,List.all_nil,aT hy,KZ,Bool.and_self]
theorem B7 {w v ys:List Int} (hy:aA ys=true) (r:Nat):(lS w v ys r).length=r*5∧aA (lS w v ys r)=true:=
 aY (fun i zs=>zs.length=i*5∧aA zs=true) r [] ⟨rfl,rfl⟩ fun k b _ h=>B8 hy h
theorem M8:a5 2 (a5 0 (a0 bT))=a5 2 (a0 bT):=by kernel_rfl
theorem M9:a5 6 (a5 4 (a0 bT))=a5 6 (a0 bT):=by kernel_rfl
theorem Y1 (w v ys:List Int) (r:Nat) (hv:v.length≤8) (hs:bC v=true) (hw:w.length=8) (hwf:aA w=true) (hr:r≤8) (hy:ys.length=r*12) (hyf:aA ys=true):
  aN none Tryz.prog 0 (.block 0 (.loop (a5 0 (a0 bT)))) (pO w v ys r 0 [] 0) fun e t=>e=.normal∧t=DR (lS w v ys r) r:=by
 refine(aN.count (ro:=none) hT t20 bF r (fun i zs=>zs.length=i*5∧aA zs=true) (fun i zs=>pO w v ys r i zs i) (fun zs=>DR zs r) (jL w v ys) (a6 bT 0) (a8 bT 0)
  (fun i zs=>[(2,⟨a6 bT 2,mM w v ys r i zs (lG ys i) i 0 0,.normal,yZ w v ys r i zs (lG ys i) i (BA w v (lG ys i))⟩)])
  (fun i zs _ h=>aK.cons (by kernel_rfl) (by rw[M8];exact Y2 w v ys r i zs (lG ys i) i hv hs hw hwf rfl (KF hyf i)) aK.nil)
  (fun i zs hi h=>⟨B8 hyf h, ?_⟩)
  (fun zs h=>⟨_,_,⟨_,_,N9 w v ys r r zs r 0 [],by simp,by simp⟩⟩)) [] ⟨rfl,rfl⟩
 ·have e:=N8 w v ys r i zs i (BA w v (lG ys i))
  rw[aB (by omega) (by omega),Int.toNat_natCast]at e
  refine⟨_,_,⟨_,_,e, ?_,by simp⟩⟩
  simp only[Bool.true_and,rpS,Bool.and_true,Bool.and_eq_true,decide_eq_true_eq]
  omega
theorem bD (l:List Int) (a b:Nat) (x d:Int):(l.set a x).getD b d=if a=b∧a<l.length then x else l.getD b d:=by
 rw[List.getD_eq_getElem?_getD,List.getElem?_set]
 by_cases h:a=b
 ·subst h
  by_cases h2:a<l.length
  ·simp[h2]
  ·simp[h2,List.getD_eq_getElem?_getD,List.getElem?_eq_none (Nat.le_of_not_lt h2)]
 ·simp[h,List.getD_eq_getElem?_getD]
theorem fgs {l:List Int} {a b:Nat} {x:Int} (hl: ∀b,fok (l.getD b 0)=true) (hx:fok x=true):fok ((l.set a x).getD b 0)=true:=by
 rw[bD];split
 ·exact hx
 ·exact hl b
theorem dD {l:List Int} {a:Nat} {x:Int} (hl:aA l=true) (hx:fok x=true):aA (l.set a x)=true:=by
 simp only[aA,List.all_eq_true]at hl⊢
 intro y hy
 rcases List.mem_or_eq_of_mem_set hy with h|h
 ·exact hl y h
 ·rw[h];exact hx
theorem JC {zs:List Int} (h:aA zs=true) (i j:Nat) (at_:Int):aA (lI zs i at_ j)=true:=
 dD (dD (dD (dD h (c9 _)) (c9 _)) (c9 _)) (c9 _)
theorem JD {zs:List Int} (h:aA zs=true) (i j:Nat) (at_:Int):aA (mS zs i at_ j)=true:=dD (JC h i j at_) (c9 _)
theorem kT (zs:List Int) (i j:Nat) (at_:Int):(mS zs i at_ j).length=zs.length:=by simp[mS,lI,KP]
def jG (i:Nat) (at_:Int) (j:Nat) (zs:List Int):List Int:=bif ((j:Int)!=(i:Int))&&(elC zs at_ j !=0)then mS zs i at_ j else zs
def vQ (n i:Nat) (at_:Int) (zs:List Int):List Int:=bH (jG i at_) n 0 zs
theorem zQ {n:Nat} {i:Nat} {at_:Int} {j:Nat} {zs:List Int} (h:zs.length=n*5∧aA zs=true):(jG i at_ j zs).length=n*5∧aA (jG i at_ j zs)=true:=by
 unfold jG
 cases ((j:Int)!=(i:Int))&&(elC zs at_ j !=0)
 ·exact h
 ·exact⟨by rw[cond_true,kT];exact h.1,JD h.2 i j at_⟩
theorem sK {n:Nat} {i:Nat} {at_:Int} {zs:List Int} (h:zs.length=n*5∧aA zs=true):(vQ n i at_ zs).length=n*5∧aA (vQ n i at_ zs)=true:=
 aY (fun _ zs=>zs.length=n*5∧aA zs=true) n zs h fun k b _ h=>zQ h
theorem Y4 (n:Nat) (zs:List Int) (i:Nat) (at_:Int) (hn:n≤8) (hi:i<n) (ha:bet at_ 0 3=true) (hz:zs.length=n*5) (hf:aA zs=true):
  aN none Tryz.prog 0 (.block 6 (.loop (a5 6 (a0 bT)))) (iA n zs i at_ 0) fun e t=>e=.normal∧t=z0 n (vQ n i at_ zs) i:=by
 have ha':=bN.1 ha
 refine aN.count (ro:=none) hT t20 bF n (fun _ zs=>zs.length=n*5∧aA zs=true) (fun j zs=>iA n zs i at_ j) (fun zs=>z0 n zs i) (jG i at_) (a6 bT 6) (a8 bT 6)
  (fun _ _=>[]) (fun _ _ _ _=>aK.nil) (fun j zs hj h=>⟨zQ h, ?_⟩) (fun zs h=>⟨_,_,⟨_,_,NH n zs i at_ n,by simp,by simp⟩⟩) zs ⟨hz,hf⟩
 obtain⟨h1,h2⟩:=h
 unfold jG
 cases c1:((j:Int)!=(i:Int))with
 |false=>
  have e:=NG n zs i at_ j
  rw[aB (by omega) (by omega),Int.toNat_natCast]at e
  refine⟨_,_,⟨_,_,e, ?_,by simp⟩⟩
  rw[c1]
  simp only[Bool.true_and,rpS,Bool.and_true,Bool.not_false,Bool.and_eq_true,decide_eq_true_eq]
  omega
 |true=>
  cases c2:(elC zs at_ j !=0)with
  |false=>
   have e:=NF n zs i at_ j
   rw[aB (by omega) (by omega),Int.toNat_natCast]at e
   refine⟨_,_,⟨_,_,e, ?_,by simp⟩⟩
   unfold elC at c2
   rw[c1,c2]
   simp only[Bool.true_and,rpS,Bool.and_true,Bool.not_false,Bool.and_eq_true,decide_eq_true_eq,cond_true]
   omega
  |true=>
   have e:=NE n zs i at_ j
   rw[aB (by omega) (by omega),Int.toNat_natCast,Int.toNat_natCast]at e
   refine⟨_,_,⟨_,_,e, ?_,by simp⟩⟩
   unfold elC at c2
   rw[c1,c2]
   simp (maxDischargeDepth:=12) only[aT h2,fgs,c9,implies_true,List.length_set,Bool.true_and,rpS,Bool.and_true,Bool.not_false,Bool.and_eq_true,decide_eq_true_eq,cond_true,true_and,and_true]
   omega
def lE (n i:Nat) (zs:List Int):List Int:=vQ n i (ld5 zs i) zs
def a1M (n:Nat) (zs:List Int):List Int:=bH (lE n) n 0 zs
def hB (n:Nat):Nat→Nat→List Int→Bool
 |0,_,_=>true
 |f+1,i,zs=>bet (ld5 zs i) 0 3&&hB n f (i+1) (lE n i zs)
def K6 (n:Nat) (zs:List Int):Bool:=hB n n 0 zs
theorem Y3 (n:Nat) (zs:List Int) (hn:n≤8) (hz:zs.length=n*5) (hf:aA zs=true) (hr:K6 n zs=true):
  aN none Tryz.prog 0 (.block 4 (.loop (a5 4 (a0 bT)))) (pP n zs 0) fun e t=>e=.normal∧t=DS n (a1M n zs):=by
 refine(aN.count (ro:=none) hT t20 bF n (fun i zs=>(zs.length=n*5∧aA zs=true)∧hB n (n-i) i zs=true) (fun i zs=>pP n zs i) (fun zs=>DS n zs) (lE n) (a6 bT 4) (a8 bT 4)
  (fun i zs=>[(6,⟨a6 bT 6,iA n zs i (ld5 zs i) 0,.normal,z0 n (lE n i zs) i⟩)]) (fun i zs hi h=> ?_) (fun i zs hi h=> ?_) (fun zs h=> ?_)) zs ⟨⟨hz,hf⟩,hr⟩
 ·obtain⟨h1,h2⟩:=h
  rw[show n-i=(n-(i+1))+1 from by omega]at h2
  simp only[hB,Bool.and_eq_true,rpS]at h2
  exact aK.cons (by kernel_rfl) (by rw[M9];exact Y4 n zs i (ld5 zs i) hn hi h2.1 h1.1 h1.2) aK.nil
 ·obtain⟨h1,h2⟩:=h
  rw[show n-i=(n-(i+1))+1 from by omega]at h2
  simp only[hB,Bool.and_eq_true,rpS]at h2
  refine⟨⟨sK h1,h2.2⟩, ?_⟩
  have e:=NC n zs (lE n i zs) i
  rw[aB (by omega) (by omega),Int.toNat_natCast]at e
  refine⟨_,_,⟨_,_,e, ?_,by simp⟩⟩
  simp only[Bool.true_and,rpS,Bool.and_true,Bool.and_eq_true,decide_eq_true_eq]
  omega
 ·have e:=ND n zs zs n []
  exact⟨_,_,⟨_,_,e,by simp,by simp⟩⟩
end
section
def v4 (zs:List Int) (i:Nat) (out:List Int):List Int:=out.set (ld5 zs i).toNat (zs.getD (i*5+4) 0)
def uZ (zs:List Int) (n:Nat):List Int:=bH (v4 zs) n 0 [0,0,0,0]
def JU (zs:List Int) (n:Nat):Bool:=cN (fun i=>bet (ld5 zs i) 0 3) n
theorem K2 (zs:List Int) (n:Nat):(uZ zs n).length=4:=aY (step:=v4 zs) (fun _ o=>o.length=4) n [0,0,0,0] rfl fun k b _ h=>by simp[v4,h]
theorem K1 {zs:List Int} (h:aA zs=true) (n:Nat):aA (uZ zs n)=true:=aY (step:=v4 zs) (fun _ o=>aA o=true) n [0,0,0,0] rfl fun k b _ hb=>dD hb (aT h _)
theorem Y5 (n:Nat) (zs:List Int) (hn:n≤8) (hz:zs.length=n*5) (hl:JU zs n=true):
  aN none Tryz.prog 0 (.block 8 (.loop (a5 8 (a0 bT)))) (pQ n zs [0,0,0,0] 0) fun e t=>e=.normal∧t=DT (uZ zs n):=by
 refine aN.count (ro:=none) hT t20 bF n (fun _ o=>o.length=4) (fun i o=>pQ n zs o i) (fun o=>DT o) (v4 zs) (a6 bT 8) (a8 bT 8)
  (fun _ _=>[]) (fun _ _ _ _=>aK.nil) (fun i o hi h=>⟨by simp[v4,h], ?_⟩) (fun o h=>⟨_,_,⟨_,_,NJ n zs o n,by simp,by simp⟩⟩) [0,0,0,0] rfl
 have hb:=bN.1 (aX hl i hi)
 have e:=NI n zs o i
 rw[aB (by omega) (by omega),Int.toNat_natCast]at e
 refine⟨_,_,⟨_,_,e, ?_,by simp⟩⟩
 simp only[Bool.true_and,rpS,Bool.and_true,Bool.and_eq_true,decide_eq_true_eq]
 omega
def spK (k:Int) (v:List Int):List Int×List Int:=eS (fY k v) v.length
def B6 (k:Int) (w v:List Int):List Int:=lS w v (spK k v).1 (spK k v).2.length
def eE (k:Int) (w v:List Int):List Int:=a1M (spK k v).2.length (B6 k w v)
def dL (k:Int) (w v:List Int):List Int:=uZ (eE k w v) (spK k v).2.length
def dO (k:Int) (w v:List Int):Bool:=K6 (spK k v).2.length (B6 k w v)&&JU (eE k w v) (spK k v).2.length
def QP (l:List Int):List aF:=[.int .i64 (l.getD 0 0),.int .i64 (l.getD 1 0),.int .i64 (l.getD 2 0),.int .i64 (l.getD 3 0)]
noncomputable def a5J (k:Int) (w v:List Int):List (Nat×LC):=
  [(0,⟨a6 bT 0,pO w v (spK k v).1 (spK k v).2.length 0 [] 0,.normal,DR (B6 k w v) (spK k v).2.length⟩),
   (4,⟨a6 bT 4,pP (spK k v).2.length (B6 k w v) 0,.normal,DS (spK k v).2.length (eE k w v)⟩),
   (8,⟨a6 bT 8,pQ (spK k v).2.length (eE k w v) [0,0,0,0] 0,.normal,DT (dL k w v)⟩)]
theorem V5 (k:Int) (w v:List Int):aE tt (a9 T20) (a5J k w v) 100 bT [.c (.int .i64 k),.c (.view none (.ints .i64 w) w.length 1 none),.c (.view none (.ints .i64 v) v.length 1 none)] [] []=
  some ⟨.agg [.int .i64 ((dL k w v).getD 0 0),.int .i64 ((dL k w v).getD 1 0),.int .i64 ((dL k w v).getD 2 0),.int .i64 ((dL k w v).getD 3 0)],[],(decide (v.length≤274877906944)&&(bet k 1 2&&(bC v&&(decide (v.length*4=(fY k v).length)&&(decide (v.length≤8)&&(aA (fY k v)&&((decide (4≤(dL k w v).length))&&true))))))),[pO w v (spK k v).1 (spK k v).2.length 0 [] 0=pO w v (spK k v).1 (spK k v).2.length 0 [] 0,pP (spK k v).2.length (B6 k w v) 0=pP (spK k v).2.length (B6 k w v) 0,pQ (spK k v).2.length (eE k w v) [0,0,0,0] 0=pQ (spK k v).2.length (eE k w v) [0,0,0,0] 0]⟩:=by kernel_rfl
def xC:aM:=fun args h=>
 match args,h with
 |[.c (.int .i64 k),.c (.view _ (.ints .i64 w) n 1 _),.c (.view _ (.ints .i64 v) n2 1 _)],[]=>
  some (.agg (QP (dL k w v)),[],[decide (v.length≤8),bet k 1 2,bC v,decide (w.length=8),aA w,dO k w v])
 |_,_=>none
theorem wK (n:Nat) (xs:List Int): ∀(f i:Nat) (s:List Int×List Int),(s.1.length=s.2.length*12∧s.2.length≤i∧(aA xs=true→aA s.1=true))→
  (fO xs f i s).1.length=(fO xs f i s).2.length*12∧(fO xs f i s).2.length≤i+f∧(aA xs=true→aA (fO xs f i s).1=true)
 |0,i,s,h=>h
 |f+1,i,s,h=>by
  simp only[fO]
  have:=wK n xs f (i+1) (bif decide (ld4 (KK xs s.1 s.2.length i)<0)then s else(s.1++nK (KK xs s.1 s.2.length i),s.2++[(i:Int)])) ?_
  ·rw[show i+(f+1)=i+1+f from by omega];exact this
  ·obtain⟨h1,h2,h3⟩:=h
   cases decide (ld4 (KK xs s.1 s.2.length i)<0)
   ·refine⟨by simp[AA,h1];omega,by simp;omega,fun hx=>eB (h3 hx) (A9 _)⟩
   ·exact⟨h1,by rw[cond_true];omega,h3⟩
theorem yF {k:Int} {v:List Int} (hk:bet k 1 2=true) (hv:bC v=true):(spK k v).1.length=(spK k v).2.length*12∧(spK k v).2.length≤v.length∧aA (spK k v).1=true:=by
 have:=wK v.length (fY k v) v.length 0 ([],[]) ⟨rfl,by simp,fun _=>rfl⟩
 exact⟨this.1,by have:=this.2.1;unfold spK eS;omega,this.2.2 (p7 hk hv)⟩
theorem a7I:aS Tryz.prog 221 xC:=by
 intro args h res h' o hnorm he ho
 unfold xC at he
 split at he
 case h_2=>cases he
 rename_i k nl w n cap nl2 v n2 cap2
 simp only[Option.some.injEq,Prod.mk.injEq]at he
 obtain⟨rfl,rfl,rfl⟩:=he
 simp only[List.mem_cons,List.not_mem_nil,or_false,forall_eq_or_imp,forall_eq,decide_eq_true_eq]at ho
 obtain⟨o1,o2,o3,o4,o5,o6⟩:=ho
 simp only[b8,AV.norm,bA,aF.norm,Con.size,List.cons.injEq,AV.c.injEq,AV.agg.injEq,aF.view.injEq,aL,true_and,and_true]at hnorm
 obtain⟨⟨rfl,rfl,rfl⟩,rfl,rfl,rfl⟩:=hnorm
 obtain⟨s1,s2,s3⟩:=yF o2 o3
 simp only[dO,Bool.and_eq_true,rpS]at o6
 have t1:=B7 (w:=w) (v:=v) s3 (spK k v).2.length
 have t2:(eE k w v).length=(spK k v).2.length*5∧aA (eE k w v)=true:=aY (step:=lE (spK k v).2.length) (fun _ zs=>zs.length=(spK k v).2.length*5∧aA zs=true) _ _ t1 fun i zs _ h=>sK h
 refine mo (fn:=bT) t20 (V5 k w v) (by simp[o1,o2,o3,p7,wD,dL,K2];omega) (hlc:=(fun cc hc=>aK.cons (c:=cc) (by cases hc;kernel_rfl) (by cases hc;exact Y1 w v (spK k v).1 (spK k v).2.length o1 o3 o4 o5 (by omega) s1 s3)
   (aK.cons (by cases hc;kernel_rfl) (by cases hc;exact Y3 _ _ (by omega) t1.1 t1.2 o6.1) (aK.cons (by cases hc;kernel_rfl) (by cases hc;exact Y5 _ _ (by omega) t2.1 o6.2) aK.nil))))
end
section
def T21:List aZ:=[⟨221,[],nm xC⟩]++T20
theorem e21:a7 Tryz.prog T21:=by
 refine a7.append ?_ e20
 intro e he
 simp only[List.mem_cons,List.not_mem_nil,or_false]at he
 subst he;exact a7I.ok
theorem t21:bK Tryz.prog (a9 T21):=aO e21
noncomputable abbrev f121:=Tryz.f217
noncomputable def jO (k:Int) (w v d:List Int) (i:Int):St:=
 aR f121.ntmps [(0,.c (.int .i64 k)),(1,.c (.view none (.ints .i64 w) w.length 1 none)),(7,.c (.ptr 0 0 0 0)),(14,.c (.view none (.ints .i64 v) v.length 1 none)),(15,.c (.int .i64 v.length)),(16,.c (.int .i64 i))]
  [.live (.ints .i64 [d.getD 0 0,d.getD 1 0,d.getD 2 0,d.getD 3 0])]
noncomputable def HK:St:=aR f121.ntmps [] []
noncomputable def HO:St:=aR f121.ntmps [(6,.c (.bool false))] []
theorem S7 (k:Int) (w v d:List Int) (i:Int):aC 0 (a6 f121 0) (a8 f121 0) (aD tt (a9 T21) ([]) 0 100 (a5 0 (a0 f121)) (jO k w v d i) [(0,true),(0,true)])=
  some (.ret,(decide (i<(↑v.length:Int))&&(decide (0≤i)&&(decide (i<(↑v.length:Int))&&(decide (i.toNat<v.length)&&(bet k 1 2&&(bet (v.getD i.toNat 0) 0 7&&(fok ((aH k (v.getD i.toNat 0)).getD 0 0)&&(fok (d.getD 0 0)&&(fok ((aH k (v.getD i.toNat 0)).getD 1 0)&&(fok (d.getD 1 0)&&(fok ((aH k (v.getD i.toNat 0)).getD 2 0)&&(fok (d.getD 2 0)&&(fok ((aH k (v.getD i.toNat 0)).getD 3 0)&&(fok (d.getD 3 0)&&(decide (0≤v.getD i.toNat 0)&&(decide (v.getD i.toNat 0<(↑w.length:Int))&&(decide ((v.getD i.toNat 0).toNat<w.length)&&((CS ((aH k (v.getD i.toNat 0)).getD 0 0) ((aH k (v.getD i.toNat 0)).getD 1 0) ((aH k (v.getD i.toNat 0)).getD 2 0) ((aH k (v.getD i.toNat 0)).getD 3 0) (d.getD 0 0) (d.getD 1 0) (d.getD 2 0) (d.getD 3 0)!=w.getD (v.getD i.toNat 0).toNat 0)&&true)))))))))))))))))),[],HO):=by kernel_rfl
theorem S8 (k:Int) (w v d:List Int) (i:Int):aC 0 (a6 f121 0) (a8 f121 0) (aD tt (a9 T21) ([]) 0 100 (a5 0 (a0 f121)) (jO k w v d i) [(0,true),(0,false)])=
  some (.normal,(decide (i<(↑v.length:Int))&&(decide (0≤i)&&(decide (i<(↑v.length:Int))&&(decide (i.toNat<v.length)&&(bet k 1 2&&(bet (v.getD i.toNat 0) 0 7&&(fok ((aH k (v.getD i.toNat 0)).getD 0 0)&&(fok (d.getD 0 0)&&(fok ((aH k (v.getD i.toNat 0)).getD 1 0)&&(fok (d.getD 1 0)&&(fok ((aH k (v.getD i.toNat 0)).getD 2 0)&&(fok (d.getD 2 0)&&(fok ((aH k (v.getD i.toNat 0)).getD 3 0)&&(fok (d.getD 3 0)&&(decide (0≤v.getD i.toNat 0)&&(decide (v.getD i.toNat 0<(↑w.length:Int))&&(decide ((v.getD i.toNat 0).toNat<w.length)&&((!CS ((aH k (v.getD i.toNat 0)).getD 0 0) ((aH k (v.getD i.toNat 0)).getD 1 0) ((aH k (v.getD i.toNat 0)).getD 2 0) ((aH k (v.getD i.toNat 0)).getD 3 0) (d.getD 0 0) (d.getD 1 0) (d.getD 2 0) (d.getD 3 0)!=w.getD (v.getD i.toNat 0).toNat 0)&&true)))))))))))))))))),[],jO k w v d (IntKind.i64.wrap (i+1))):=by kernel_rfl
theorem S9 (k:Int) (w v d:List Int) (i:Int):aC 0 (a6 f121 0) (a8 f121 0) (aD tt (a9 T21) ([]) 0 100 (a5 0 (a0 f121)) (jO k w v d i) [(0,false)])=
  some (.exit 0,((!decide (i<(↑v.length:Int)))&&true),[],HK):=by kernel_rfl
def xW (k:Int) (w v d:List Int) (i:Nat):Bool:= !(cO k d (v.getD i 0)!=w.getD (v.getD i 0).toNat 0)
def cE (k:Int) (w v:List Int):Bool:=cH (xW k w v (dL k w v)) v.length 0
theorem kG {k a:Int} (hk:bet k 1 2=true) (ha:bet a 0 7=true):aA (aH k a)=true:=by
 refine JX (q:=fun k a=>aA (aH k a)=true) (fun i hi=> ?_) hk ha
 have all:cN (fun k=>aA (aH ((k/8:Nat)+1:Int) (k%8:Nat))) 16=true:=by kernel_rfl
 exact aX all i hi
theorem E8 (k:Int) (d:List Int) (a:Int):CS ((aH k a).getD 0 0) ((aH k a).getD 1 0) ((aH k a).getD 2 0) ((aH k a).getD 3 0) (d.getD 0 0) (d.getD 1 0) (d.getD 2 0) (d.getD 3 0)=cO k d a:=rfl
theorem a5V (k:Int) (w v d:List Int) (hk:bet k 1 2=true) (hv:v.length≤8) (hs:bC v=true) (hw:w.length=8) (hd:aA d=true):
  aN none Tryz.prog 0 (.block 0 (.loop (a5 0 (a0 f121)))) (jO k w v d 0) fun e t=>e=(bif cH (xW k w v d) v.length 0 then .normal else .ret)∧t=bif cH (xW k w v d) v.length 0 then HK else HO:=by
 have common: ∀i,i<v.length→bet (v.getD i 0) 0 7=true∧aA (aH k (v.getD i 0))=true:=fun i hi=>⟨d8 hs hi,kG hk (d8 hs hi)⟩
 refine aN.all (ro:=none) hT t21 bF v.length (xW k w v d) (fun i=>jO k w v d i) HK HO .ret (.inr rfl) (a6 f121 0) (a8 f121 0) (fun _=>[]) (fun _ _=>aK.nil) (fun i hi h=> ?_) (fun i hi h=> ?_)
  ⟨_,_,⟨_,_,S9 k w v d v.length,by simp,by simp⟩⟩
 ·obtain⟨h1,h2⟩:=common i hi
  have h3:=bN.1 h1
  have e:=S8 k w v d i
  simp only[E8]at e
  rw[aB (by omega) (by omega),Int.toNat_natCast]at e
  refine⟨_,_,⟨_,_,e, ?_,by simp⟩⟩
  unfold xW at h
  simp only[h,hk,h1,aT h2,aT hd,Bool.true_and,rpS,Bool.and_true,Bool.and_eq_true,decide_eq_true_eq]
  omega
 ·obtain⟨h1,h2⟩:=common i hi
  have h3:=bN.1 h1
  have e:=S7 k w v d i
  simp only[E8]at e
  rw[Int.toNat_natCast]at e
  refine⟨_,_,⟨_,_,e, ?_,by simp⟩⟩
  unfold xW at h
  rw[Bool.not_eq_false']at h
  simp only[h,hk,h1,aT h2,aT hd,Bool.true_and,rpS,Bool.and_true,Bool.and_eq_true,decide_eq_true_eq]
  omega
theorem US (k:Int) (w v:List Int):aE tt (a9 T21) ([(0,⟨a6 f121 0,jO k w v (dL k w v) 0,.normal,HK⟩)]) 100 f121 [.c (.int .i64 k),.c (.view none (.ints .i64 w) w.length 1 none),.c (.view none (.ints .i64 v) v.length 1 none)] [] []=
  some ⟨.c (.bool true),[],(decide (v.length≤8)&&(bet k 1 2&&(bC v&&(decide (w.length=8)&&(aA w&&((dO k w v)&&true)))))),[jO k w v (dL k w v) 0=jO k w v (dL k w v) 0]⟩:=by kernel_rfl
theorem OR (k:Int) (w v:List Int):aE tt (a9 T21) ([(0,⟨a6 f121 0,jO k w v (dL k w v) 0,.ret,HO⟩)]) 100 f121 [.c (.int .i64 k),.c (.view none (.ints .i64 w) w.length 1 none),.c (.view none (.ints .i64 v) v.length 1 none)] [] []=
  some ⟨.c (.bool false),[],(decide (v.length≤8)&&(bet k 1 2&&(bC v&&(decide (w.length=8)&&(aA w&&((dO k w v)&&true)))))),[jO k w v (dL k w v) 0=jO k w v (dL k w v) 0]⟩:=by kernel_rfl
def BK:aM:=fun args h=>
 match args,h with
 |[.c (.int .i64 k),.c (.view _ (.ints .i64 w) n 1 _),.c (.view _ (.ints .i64 v) n2 1 _)],[]=>
  some (.c (.bool (cE k w v)),[],[decide (v.length≤8),bet k 1 2,bC v,decide (w.length=8),aA w,dO k w v])
 |_,_=>none
theorem AU {k:Int} {w v:List Int} (hk:bet k 1 2=true) (hv:bC v=true):aA (dL k w v)=true:=by
 obtain⟨s1,s2,s3⟩:=yF hk hv
 have t1:=B7 (w:=w) (v:=v) s3 (spK k v).2.length
 have t2:(eE k w v).length=(spK k v).2.length*5∧aA (eE k w v)=true:=aY (step:=lE (spK k v).2.length) (fun _ zs=>zs.length=(spK k v).2.length*5∧aA zs=true) _ _ t1 fun i zs _ h=>sK h
 exact K1 t2.2 _
theorem a76:aS Tryz.prog 217 BK:=by
 intro args h res h' o hnorm he ho
 unfold BK at he
 split at he
 case h_2=>cases he
 rename_i k nl w n cap nl2 v n2 cap2
 simp only[Option.some.injEq,Prod.mk.injEq]at he
 obtain⟨rfl,rfl,rfl⟩:=he
 simp only[List.mem_cons,List.not_mem_nil,or_false,forall_eq_or_imp,forall_eq,decide_eq_true_eq]at ho
 obtain⟨o1,o2,o3,o4,o5,o6⟩:=ho
 simp only[b8,AV.norm,bA,aF.norm,Con.size,List.cons.injEq,AV.c.injEq,AV.agg.injEq,aF.view.injEq,aL,true_and,and_true]at hnorm
 obtain⟨⟨rfl,rfl,rfl⟩,rfl,rfl,rfl⟩:=hnorm
 have g:=a5V k w v (dL k w v) o2 o1 o3 o4 (AU o2 o3)
 unfold cE
 cases hx:cH (xW k w v (dL k w v)) v.length 0 with
 |true=>
  rw[hx]at g
  exact c8 t21 (fn:=f121) (lc:=[(0,⟨a6 f121 0,jO k w v (dL k w v) 0,.normal,HK⟩)]) (fuel:=100) (p:=[]) (o:=⟨_,_,_,[jO k w v (dL k w v) 0=jO k w v (dL k w v) 0]⟩)
   (by kernel_rfl) (by kernel_rfl) (US k w v) (by simp[o1,o2,o3,o4,o5,o6]) (by simp) (fun cc hc=>aK.cons (c:=cc) (by cases hc;kernel_rfl) (by cases hc;exact g) aK.nil)
 |false=>
  rw[hx]at g
  exact c8 t21 (fn:=f121) (lc:=[(0,⟨a6 f121 0,jO k w v (dL k w v) 0,.ret,HO⟩)]) (fuel:=100) (p:=[]) (o:=⟨_,_,_,[jO k w v (dL k w v) 0=jO k w v (dL k w v) 0]⟩)
   (by kernel_rfl) (by kernel_rfl) (OR k w v) (by simp[o1,o2,o3,o4,o5,o6]) (by simp) (fun cc hc=>aK.cons (c:=cc) (by cases hc;kernel_rfl) (by cases hc;exact g) aK.nil)
end
end Go.Proofs.YtdnfojanjejdgaaGreat.Am
