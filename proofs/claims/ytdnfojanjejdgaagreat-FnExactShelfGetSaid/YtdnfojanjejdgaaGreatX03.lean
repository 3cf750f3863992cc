/- DERIVED. Part 3 of the proof: C4, C5, C6, C7, C8, C9, C10, C11, C12, C13, C14, C15, C16, C17, Am27, Am28, C18, C19, C20, Am29, C21, C22, C23. No statement of the program is proved here. -/
import Derived.Test.YtdnfojanjejdgaaGreatX02
set_option linter.unusedSimpArgs false
set_option linter.unusedVariables false
set_option linter.unusedSectionVars false
set_option linter.defProp false
namespace Go.Proofs.YtdnfojanjejdgaaGreat.Am
section
def y9:aO:=fun args h=>
 match args,h with
 |[.agg [.int .i64 a,.int .i64 b,.int .i64 c,.int .i64 d],.agg [.int .i64 x,.int .i64 y,.int .i64 z,.int .i64 t]],[]=>
  some (.agg [.int .i64 ((a+x)%31),.int .i64 ((b+y)%31),.int .i64 ((c+z)%31),.int .i64 ((d+t)%31)],[],[fok a,fok x,fok b,fok y,fok c,fok z,fok d,fok t])
 |_,_=>none
def sE:aO:=fun args h=>
 match args,h with
 |[.agg [.int .i64 a,.int .i64 b,.int .i64 c,.int .i64 d],.c (.int .i64 x)],[]=>
  some (.agg [.int .i64 ((a*x)%31),.int .i64 ((b*x)%31),.int .i64 ((c*x)%31),.int .i64 ((d*x)%31)],[],[fok a,fok x,fok b,fok x,fok c,fok x,fok d,fok x])
 |_,_=>none
def EB (a b c d x y z t:Int):Int:=((((0+(a*x)%31)%31+(b*y)%31)%31+(c*z)%31)%31+(d*t)%31)%31
def DL:aO:=fun args h=>
 match args,h with
 |[.agg [.int .i64 a,.int .i64 b,.int .i64 c,.int .i64 d],.agg [.int .i64 x,.int .i64 y,.int .i64 z,.int .i64 t]],[]=>
  some (.c (.int .i64 (EB a b c d x y z t)),[],[fok a,fok x,fok b,fok y,fok c,fok z,fok d,fok t])
 |_,_=>none
def y8:aO:=fun args h=>
 match args,h with
 |[.agg [.int .i64 a,.int .i64 b,.int .i64 c,.int .i64 d]],[]=>some (.c (.sl 0 0 4 1 none),[.live (.ints .i64 [a,b,c,d])],[])
 |_,_=>none
theorem cB (n:Int):fok (n%31)=true:=eL.2 ⟨by omega,by omega⟩
theorem aAT:aR Tryz.prog 253 y9:=by
 intro args h res h' o he ho
 unfold y9 at he
 split at he
 ·rename_i a b c d x y z t
  simp only[Option.some.injEq,Prod.mk.injEq]at he
  obtain⟨rfl,rfl,rfl⟩:=he
  have e:aJ tt (aH T3) [] 100 Tryz.f253 [.agg [.int .i64 a,.int .i64 b,.int .i64 c,.int .i64 d],.agg [.int .i64 x,.int .i64 y,.int .i64 z,.int .i64 t]] [] []=some ⟨.agg [.int .i64 ((a+x)%31),.int .i64 ((b+y)%31),.int .i64 ((c+z)%31),.int .i64 ((d+t)%31)],[],(fok a&&(fok x&&(fok b&&(fok y&&(fok c&&(fok z&&(fok d&&(fok t&&true)))))))),[]⟩:=by kernel_rfl
  simp only[List.mem_cons,List.not_mem_nil,or_false,forall_eq_or_imp,forall_eq]at ho
  exact mo t3 e (by simp[ho])
 ·cases he
theorem aB6:aR Tryz.prog 259 sE:=by
 intro args h res h' o he ho
 unfold sE at he
 split at he
 ·rename_i a b c d x
  simp only[Option.some.injEq,Prod.mk.injEq]at he
  obtain⟨rfl,rfl,rfl⟩:=he
  have e:aJ tt (aH T3) [] 100 Tryz.f259 [.agg [.int .i64 a,.int .i64 b,.int .i64 c,.int .i64 d],.c (.int .i64 x)] [] []=some ⟨.agg [.int .i64 ((a*x)%31),.int .i64 ((b*x)%31),.int .i64 ((c*x)%31),.int .i64 ((d*x)%31)],[],(fok a&&(fok x&&(fok b&&(fok x&&(fok c&&(fok x&&(fok d&&(fok x&&true)))))))),[]⟩:=by kernel_rfl
  simp only[List.mem_cons,List.not_mem_nil,or_false,forall_eq_or_imp,forall_eq]at ho
  exact mo t3 e (by simp[ho])
 ·cases he
theorem aAB:aR Tryz.prog 219 DL:=by
 intro args h res h' o he ho
 unfold DL at he
 split at he
 ·rename_i a b c d x y z t
  simp only[Option.some.injEq,Prod.mk.injEq]at he
  obtain⟨rfl,rfl,rfl⟩:=he
  have e:aJ tt (aH T3) [] 100 Tryz.f219 [.agg [.int .i64 a,.int .i64 b,.int .i64 c,.int .i64 d],.agg [.int .i64 x,.int .i64 y,.int .i64 z,.int .i64 t]] [] []=some ⟨.c (.int .i64 (EB a b c d x y z t)),[],(fok a&&(fok x&&(fok ((a*x)%31)&&(fok b&&(fok y&&(fok ((0+(a*x)%31)%31)&&(fok ((b*y)%31)&&(fok c&&(fok z&&(fok (((0+(a*x)%31)%31+(b*y)%31)%31)&&(fok ((c*z)%31)&&(fok d&&(fok t&&(fok ((((0+(a*x)%31)%31+(b*y)%31)%31+(c*z)%31)%31)&&(fok ((d*t)%31)&&true))))))))))))))),[]⟩:=by kernel_rfl
  simp only[List.mem_cons,List.not_mem_nil,or_false,forall_eq_or_imp,forall_eq]at ho
  exact mo t3 e (by simp[ho,cB])
 ·cases he
theorem aAM:aR Tryz.prog 222 y8:=by
 intro args h res h' o he ho
 unfold y8 at he
 split at he
 ·rename_i a b c d
  simp only[Option.some.injEq,Prod.mk.injEq]at he
  obtain⟨rfl,rfl,rfl⟩:=he
  have e:aJ tt (aH T3) [] 100 Tryz.f222 [.agg [.int .i64 a,.int .i64 b,.int .i64 c,.int .i64 d]] [] []=some ⟨.c (.sl 0 0 4 1 none),[.live (.ints .i64 [a,b,c,d])],true,[]⟩:=by kernel_rfl
  exact mo t3 e rfl
 ·cases he
end
section
def eqC:aI→aI→Bool
 |.int k n,.int k' n'=>decide (k=k')&&decide (n=n')
 |.bool b,.bool b'=>b==b'
 |.sl id o len es none,.sl id' o' len' es' none=>id==id'&&o==o'&&len==len'&&es==es'
 |_,_=>false
theorem B2 {x y:aI} (h:eqC x y=true):x=y:=by
 unfold eqC at h
 split at h
 ·simp at h;obtain⟨rfl,rfl⟩:=h;rfl
 ·simp at h;subst h;rfl
 ·simp at h;obtain⟨⟨⟨rfl,rfl⟩,rfl⟩,rfl⟩:=h;rfl
 ·cases h
def eqL {α:Type} (f:α→α→Bool):List α→List α→Bool
 |[],[]=>true
 |x::r,y::s=>f x y&&eqL f r s
 |_,_=>false
theorem iP {α:Type} {f:α→α→Bool} (hf: ∀x y,f x y=true→x=y): ∀ {l r:List α},eqL f l r=true→l=r
 |[],[],_=>rfl
 |x::l,y::r,h=>by
  simp only[eqL,Bool.and_eq_true,rpS]at h
  rw[hf _ _ h.1,iP hf h.2]
 |[],_::_,h=>by simp[eqL]at h
 |_::_,[],h=>by simp[eqL]at h
def eqA:AV→AV→Bool
 |.c x,.c y=>eqC x y
 |.agg l,.agg r=>eqL eqC l r
 |_,_=>false
theorem LU {x y:AV} (h:eqA x y=true):x=y:=by
 unfold eqA at h
 split at h
 ·rw[B2 h]
 ·rw[iP (fun _ _=>B2) h]
 ·cases h
def eqS:aV→aV→Bool
 |.live (.ints k xs),.live (.ints k' ys)=>decide (k=k')&&eqL (fun a b=>decide (a=b)) xs ys
 |.live (.bools xs),.live (.bools ys)=>eqL (fun a b=>a==b) xs ys
 |_,_=>false
theorem LV {x y:aV} (h:eqS x y=true):x=y:=by
 unfold eqS at h
 split at h
 ·simp only[Bool.and_eq_true,rpS,decide_eq_true_eq]at h
  obtain⟨rfl,h⟩:=h
  rw[iP (fun a b h=>by simpa using h) h]
 ·rw[iP (fun a b h=>by simpa using h) h]
 ·cases h
def wO (r:Option sF) (res:AV) (heap:List aV):Bool:=
 match r with
 |some ⟨a,h,true,[]⟩=>eqA a res&&eqL eqS h heap
 |_=>false
theorem j6 {r:Option sF} {res:AV} {heap:List aV} (h:wO r res heap=true):r=some ⟨res,heap,true,[]⟩:=by
 unfold wO at h
 split at h
 ·simp only[Bool.and_eq_true,rpS]at h
  rw[LU h.1,iP (fun _ _=>LV) h.2]
 ·cases h
def SB (n:Int):List aI:=[.int .i64 (if n=0 then 1 else 0),.int .i64 (if n=1 then 1 else 0),.int .i64 (if n=2 then 1 else 0),.int .i64 (if n=3 then 1 else 0)]
def DJ:aO:=fun args h=>
 match args,h with
 |[.c (.int .i64 n)],[]=>some (.agg (SB n),[],[bet n 0 3])
 |_,_=>none
def UT (x:Int):List aI:=[.int .i64 1,.int .i64 (1*x%31),.int .i64 (1*x%31*x%31),.int .i64 (1*x%31*x%31*x%31)]
def K5:aO:=fun args h=>
 match args,h with
 |[.c (.int .i64 x)],[]=>some (.agg (UT x),[],[fok x])
 |_,_=>none
theorem aAS:aR Tryz.prog 252 DJ:=by
 intro args h res h' o he ho
 unfold DJ at he
 split at he
 ·rename_i n
  simp only[Option.some.injEq,Prod.mk.injEq]at he
  obtain⟨rfl,rfl,rfl⟩:=he
  have hb:=ho (bet n 0 3) (List.mem_singleton.2 rfl)
  simp only[bet,Bool.and_eq_true,rpS,decide_eq_true_eq]at hb
  have all:cN (fun k=>wO (aJ tt (aH T3) [] 1000 Tryz.f252 [.c (.int .i64 (k:Nat))] [] []) (.agg (SB (k:Nat))) []) 4=true:=by kernel_rfl
  have e:=j6 (aX all n.toNat (by omega))
  rw[show((n.toNat:Nat):Int)=n from by omega]at e
  exact mo t3 e rfl
 ·cases he
theorem aAR:aR Tryz.prog 251 K5:=by
 intro args h res h' o he ho
 unfold K5 at he
 split at he
 ·rename_i n
  simp only[Option.some.injEq,Prod.mk.injEq]at he
  obtain⟨rfl,rfl,rfl⟩:=he
  refine PJ (q:=fun n=>bF Tryz.prog _ [.c (.int .i64 n)] [] (.agg (UT n)) []) (fun k hk=> ?_) (ho _ (List.mem_singleton.2 rfl))
  have all:cN (fun k=>wO (aJ tt (aH T3) [] 1000 Tryz.f251 [.c (.int .i64 k)] [] []) (.agg (UT k)) []) 31=true:=by kernel_rfl
  exact mo t3 (j6 (aX all k hk)) rfl
 ·cases he
def T5a:List aZ:=[⟨252,[],DJ⟩,⟨251,[],K5⟩,⟨253,[],y9⟩]++T3
theorem e5a:aA Tryz.prog T5a:=by
 refine aA.append ?_ e3
 intro e he
 simp only[List.mem_cons,List.not_mem_nil,or_false]at he
 rcases he with rfl|rfl|rfl
 ·exact aAS
 ·exact aAR
 ·exact aAT
theorem t5a:bL Tryz.prog (aH T5a):=aQ e5a
def EG (r:Option sF) (xs:List Int) (len:Nat):Bool:=
 match r with
 |some ⟨.c (.view none (.ints .i64 ys) l 1 none),[],true,[]⟩=>eqL (fun a b=>decide (a=b)) ys xs&&l==len
 |_=>false
theorem B5 {r:Option sF} {xs:List Int} {len:Nat} (h:EG r xs len=true):r=some ⟨.c (.view none (.ints .i64 xs) len 1 none),[],true,[]⟩:=by
 unfold EG at h
 split at h
 ·simp only[Bool.and_eq_true,rpS,beq_iff_eq]at h
  rw[iP (fun a b h=>by simpa using h) h.1,h.2]
 ·cases h
def bH (kind at_:Int):List Int:=
 if kind=1 then [[1,0,0,0],[0,1,0,0],[0,0,1,0],[0,0,0,1],[1,1,0,0],[0,0,1,1],[1,2,4,8],[1,3,9,27]].getD at_.toNat []
 else [1,(at_+1)%31,(at_+1)*(at_+1)%31,(at_+1)*(at_+1)*(at_+1)%31]
def WZ (kind at_:Int):List aI:=[.int .i64 ((bH kind at_).getD 0 0),.int .i64 ((bH kind at_).getD 1 0),.int .i64 ((bH kind at_).getD 2 0),.int .i64 ((bH kind at_).getD 3 0)]
def K7:aO:=fun args h=>
 match args,h with
 |[.c (.int .i64 k),.c (.int .i64 a)],[]=>some (.agg (WZ k a),[],[bet k 1 2,bet a 0 7])
 |_,_=>none
def xR:aO:=fun args h=>
 match args,h with
 |[.c (.int .i64 k),.c (.int .i64 a)],[]=>some (.c (.view none (.ints .i64 (bH k a)) 4 1 none),[],[bet k 1 2,bet a 0 7])
 |_,_=>none
theorem MD {q:Int→Int→Prop} (h: ∀k:Nat,k<16→q ((k/8:Nat)+1:Int) (k%8:Nat)) {k a:Int} (hk:bet k 1 2=true) (ha:bet a 0 7=true):q k a:=by
 simp only[bet,Bool.and_eq_true,rpS,decide_eq_true_eq]at hk ha
 have:=h ((k.toNat-1)*8+a.toNat) (by omega)
 have e1:(((((k.toNat-1)*8+a.toNat)/8:Nat):Int)+1)=k:=by omega
 have e2:((((k.toNat-1)*8+a.toNat)%8:Nat):Int)=a:=by omega
 rwa[e1,e2]at this
theorem aAA:aR Tryz.prog 218 K7:=by
 intro args h res h' o he ho
 unfold K7 at he
 split at he
 ·rename_i k a
  simp only[Option.some.injEq,Prod.mk.injEq]at he
  obtain⟨rfl,rfl,rfl⟩:=he
  refine MD (q:=fun k a=>bF Tryz.prog _ [.c (.int .i64 k),.c (.int .i64 a)] [] (.agg (WZ k a)) []) (fun i hi=> ?_) (ho _ (by simp)) (ho _ (by simp))
  have all:cN (fun k=>wO (aJ tt (aH T5a) [] 1000 Tryz.f218 [.c (.int .i64 ((k/8:Nat)+1:Int)),.c (.int .i64 (k%8:Nat))] [] []) (.agg (WZ ((k/8:Nat)+1:Int) (k%8:Nat))) []) 16=true:=by kernel_rfl
  exact mo t5a (j6 (aX all i hi)) rfl
 ·cases he
theorem a9Y:aR Tryz.prog 163 xR:=by
 intro args h res h' o he ho
 unfold xR at he
 split at he
 ·rename_i k a
  simp only[Option.some.injEq,Prod.mk.injEq]at he
  obtain⟨rfl,rfl,rfl⟩:=he
  refine MD (q:=fun k a=>bF Tryz.prog _ [.c (.int .i64 k),.c (.int .i64 a)] [] (.c (.view none (.ints .i64 (bH k a)) 4 1 none)) []) (fun i hi=> ?_) (ho _ (by simp)) (ho _ (by simp))
  by_cases h8:i<8
  ·have all:cN (fun k=>EG (aJ tt (aH T3) [] 1000 Tryz.f163 [.c (.int .i64 ((k/8:Nat)+1:Int)),.c (.int .i64 (k%8:Nat))] [] []) (bH ((k/8:Nat)+1:Int) (k%8:Nat)) 4) 8=true:=by kernel_rfl
   exact mo t3 (B5 (aX all i h8)) rfl
  ·have all:cN (fun k=>wO (aJ tt (aH T3) [] 1000 Tryz.f163 [.c (.int .i64 (((k+8)/8:Nat)+1:Int)),.c (.int .i64 ((k+8)%8:Nat))] [] []) (.c (.sl 0 0 4 1 none)) [.live (.ints .i64 (bH (((k+8)/8:Nat)+1:Int) ((k+8)%8:Nat)))]) 8=true:=by kernel_rfl
   have e:=j6 (aX all (i-8) (by omega))
   rw[show i-8+8=i from by omega]at e
   refine bF.view (mo t3 e rfl) rfl ?_
   have:(((i/8:Nat)+1:Int))=2:=by omega
   rw[this];rfl
 ·cases he
def T5:List aZ:=[⟨218,[],K7⟩,⟨163,[],xR⟩,⟨259,[],sE⟩,⟨219,[],DL⟩,⟨222,[],y8⟩]++T5a
theorem e5:aA Tryz.prog T5:=by
 refine aA.append ?_ e5a
 intro e he
 simp only[List.mem_cons,List.not_mem_nil,or_false]at he
 rcases he with rfl|rfl|rfl|rfl|rfl
 ·exact aAA
 ·exact a9Y
 ·exact aB6
 ·exact aAB
 ·exact aAM
theorem t5:bL Tryz.prog (aH T5):=aQ e5
end
section
def aD (v:List Int):Bool:=v.all fok
theorem aU {v:List Int} (h:aD v=true) (i:Nat):fok (v.getD i 0)=true:=by
 rcases Nat.lt_or_ge i v.length with hi|hi
 ·rw[List.getD_eq_getElem?_getD,List.getElem?_eq_getElem hi]
  exact List.all_eq_true.1 h _ (List.getElem_mem hi)
 ·rw[List.getD_eq_getElem?_getD,List.getElem?_eq_none hi];rfl
theorem nK {n:Int} (h:0≤n):n.tmod 31=n%31:=Int.tmod_eq_emod_of_nonneg h
def qE (v w:List Int):Nat→Nat→Int→Int
 |0,_,n=>n
 |k+1,i,n=>qE v w k (i+1) ((n+v.getD i 0*w.getD i 0)%31)
def dL (v w:List Int):Int:=qE v w v.length 0 0
noncomputable abbrev f108:=Tryz.f162
def A2 (nl nl2:Option Bool) (cap cap2:Option Nat) (v w:List Int) (i n:Int):St:=
 aS 26 [(0,.c (.view nl (.ints .i64 v) v.length 1 cap)),(1,.c (.view nl2 (.ints .i64 w) w.length 1 cap2)),(5,.c (.int .i64 n)),(6,.c (.int .i64 i))] []
def NW (n:Int):St:=aS 26 [(5,.c (.int .i64 n))] []
section
variable (ct : CT) (nl nl2 : Option Bool) (cap cap2 : Option Nat) (v w : List Int) (i n : Int)
theorem UZ:aK 0 (aE f108 0) (aG f108 0) (aM tt ct [] 0 100 (aC 0 (aB f108)) (A2 nl nl2 cap cap2 v w i n) [(0,true)])=
  some (.normal,(decide (i<v.length)&&(decide (0≤i)&&(decide (i<v.length)&&(decide (i.toNat<v.length)&&(decide (0≤i)&&(decide (i<w.length)&&(decide (i.toNat<w.length)&&true))))))),[],
   A2 nl nl2 cap cap2 v w (IntKind.i64.wrap (i+1)) ((IntKind.i64.wrap (n+IntKind.i64.wrap (v.getD i.toNat 0*w.getD i.toNat 0))).tmod 31)):=by kernel_rfl
theorem V0:aK 0 (aE f108 0) (aG f108 0) (aM tt ct [] 0 100 (aC 0 (aB f108)) (A2 nl nl2 cap cap2 v w i n) [(0,false)])=
  some (.exit 0,(!decide (i<v.length)&&true),[],NW n):=by kernel_rfl
end
theorem sY {n a b:Int} (hn:fok n=true) (ha:fok a=true) (hb:fok b=true):(IntKind.i64.wrap (n+IntKind.i64.wrap (a*b))).tmod 31=(n+a*b)%31:=by
 obtain⟨h1,h2⟩:=kX ha hb
 obtain⟨h3,h4⟩:=eL.1 hn
 rw[oF ha hb,cQ (by omega) (by omega),nK (by omega)]
theorem a8U {ct:CT} (hct:bL Tryz.prog ct) (nl nl2:Option Bool) (cap cap2:Option Nat) (v w:List Int) (hl:v.length≤274877906944) (hvw:v.length≤w.length) (hv:aD v=true) (hw:aD w=true):
  aP none Tryz.prog 0 (.block 0 (.loop (aC 0 (aB f108)))) (A2 nl nl2 cap cap2 v w 0 0) fun e t=>e=.normal∧t=NW (dL v w):=by
 refine aP.roundsN (ro:=none) hT hct bE (m:=0) (id:=0) (body:=aC 0 (aB f108)) (α:=Nat×Int)
  (fun x=>x.1≤v.length∧fok x.2=true∧qE v w (v.length-x.1) x.1 x.2=dL v w) (fun x=>A2 nl nl2 cap cap2 v w x.1 x.2) (fun x=>v.length-x.1) (aE f108 0) (aG f108 0)
  (fun _=>NW (dL v w)) (fun _=>[]) (fun _ _=>aL.nil) (fun x hx=> ?_) (0,0) ⟨by simp,rfl,rfl⟩
 obtain⟨i,n⟩:=x
 obtain⟨h1,h2,h3⟩:=hx
 dsimp only at h1 h2 h3⊢
 by_cases hi:i<v.length
 ·have hk:v.length-i=(v.length-(i+1))+1:=by omega
  rw[hk]at h3
  simp only[qE]at h3
  refine⟨_,_,_,_,_,_,UZ ct nl nl2 cap cap2 v w i n, ?_,by simp,.inl ⟨rfl,(i+1,(n+v.getD i 0*w.getD i 0)%31),⟨by omega,cB _,h3⟩,by dsimp only;omega, ?_,rfl⟩⟩
  ·simp;omega
  ·rw[aF (by omega) (by omega),Int.toNat_natCast,sY h2 (aU hv i) (aU hw i)];simp
 ·have hz:v.length-i=0:=by omega
  rw[hz]at h3
  simp only[qE]at h3
  exact⟨_,_,_,_,_,_,V0 ct nl nl2 cap cap2 v w i n,by simp;omega,by simp,.inr ⟨rfl,by rw[h3]⟩⟩
def JV:aO:=fun args h=>
 match args,h with
 |[.c (.view nl (.ints .i64 v) len 1 cap),.c (.view nl2 (.ints .i64 w) len2 1 cap2)],[]=>
  some (.c (.int .i64 (dL v w)),[],[decide (v.length≤274877906944),decide (v.length≤w.length),aD v,aD w])
 |_,_=>none
theorem a9X {ct:CT} (hct:bL Tryz.prog ct):aR Tryz.prog 162 JV:=by
 intro args h res h' o he ho
 unfold JV at he
 split at he
 ·rename_i nl v len cap nl2 w len2 cap2
  simp only[Option.some.injEq,Prod.mk.injEq]at he
  obtain⟨rfl,rfl,rfl⟩:=he
  simp only[List.mem_cons,List.not_mem_nil,or_false,forall_eq_or_imp,forall_eq,decide_eq_true_eq]at ho
  obtain⟨o1,o2,o3,o4⟩:=ho
  refine bF.len ⟨f108,by kernel_rfl,by kernel_rfl,by kernel_rfl⟩ fun hlen=> ?_
  simp only[List.mem_cons,List.not_mem_nil,or_false,forall_eq_or_imp,forall_eq,AV.lenOk,aI.lenOk,Con.size,Nat.mul_one]at hlen
  obtain⟨rfl,rfl⟩:=hlen
  exact cA hct (fn:=f108) (lc:=[(0,⟨aE f108 0,A2 nl nl2 cap cap2 v w 0 0,.normal,NW (dL v w)⟩)]) (fuel:=100) (p:=[]) (o:=⟨_,_,true,[A2 nl nl2 cap cap2 v w 0 0=A2 nl nl2 cap cap2 v w 0 0]⟩)
   (by kernel_rfl) (by kernel_rfl) (by kernel_rfl) rfl (by simp) (fun c hc=>aL.cons (c:=c) (by cases hc;kernel_rfl) (by cases hc;exact a8U hct nl nl2 cap cap2 v w o1 o2 o3 o4) aL.nil)
 ·cases he
end
section
def gP (f:Nat→Int):Nat→Nat→List Int
 |0,_=>[]
 |k+1,i=>f i::gP f k (i+1)
theorem p8 (f:Nat→Int): ∀k i,(gP f k i).length=k
 |0,_=>rfl
 |k+1,i=>by simp[gP,p8 f k (i+1)]
def R4 (v w:List Int) (i:Nat):Int:=(v.getD i 0+w.getD i 0)%31
def v8 (v w:List Int):List Int:=gP (R4 v w) v.length 0
noncomputable abbrev f180:=Tryz.f270
noncomputable def AB (nl nl2:Option Bool) (cap cap2:Option Nat) (v w:List Int) (i:Int) (n:Nat) (out:List Int):St:=
 aS f180.ntmps [(0,.c (.view nl (.ints .i64 v) v.length 1 cap)),(1,.c (.view nl2 (.ints .i64 w) w.length 1 cap2)),(5,.c (.sl 0 0 n 1 none)),(6,.c (.int .i64 i))] [.live (.ints .i64 out)]
noncomputable def O9 (n:Nat) (out:List Int):St:=aS f180.ntmps [(5,.c (.sl 0 0 n 1 none))] [.live (.ints .i64 out)]
section
variable (ct : CT) (nl nl2 : Option Bool) (cap cap2 : Option Nat) (v w : List Int) (i : Int) (n : Nat) (out : List Int)
theorem WC:aK 0 (aE f180 0) (aG f180 0) (aM tt ct [] 0 100 (aC 0 (aB f180)) (AB nl nl2 cap cap2 v w i n out) [(0,true)])=
  some (.normal,(decide (i<v.length)&&(decide (0≤i)&&(decide (i<v.length)&&(decide (i.toNat<v.length)&&(decide (0≤i)&&(decide (i<w.length)&&(decide (i.toNat<w.length)&&
   (decide (1=[(IntKind.i64.wrap (v.getD i.toNat 0+w.getD i.toNat 0)).tmod 31].length)&&(decide (n=out.length)&&(decide (n+1≤274877906944)&&true)))))))))),[],
   AB nl nl2 cap cap2 v w (IntKind.i64.wrap (i+1)) (n+1) (out++[(IntKind.i64.wrap (v.getD i.toNat 0+w.getD i.toNat 0)).tmod 31])):=by kernel_rfl
theorem WD:aK 0 (aE f180 0) (aG f180 0) (aM tt ct [] 0 100 (aC 0 (aB f180)) (AB nl nl2 cap cap2 v w i n out) [(0,false)])=
  some (.exit 0,(!decide (i<v.length)&&true),[],O9 n out):=by kernel_rfl
end
theorem NC {a b:Int} (ha:fok a=true) (hb:fok b=true):(IntKind.i64.wrap (a+b)).tmod 31=(a+b)%31:=by
 obtain⟨h3,h4⟩:=eL.1 ha;obtain⟨h1,h2⟩:=eL.1 hb
 rw[CO ha hb,nK (by omega)]
theorem a9D {ct:CT} (hct:bL Tryz.prog ct) (nl nl2:Option Bool) (cap cap2:Option Nat) (v w:List Int) (hl:v.length≤274877906944) (hvw:v.length≤w.length) (hv:aD v=true) (hw:aD w=true):
  aP none Tryz.prog 0 (.block 0 (.loop (aC 0 (aB f180)))) (AB nl nl2 cap cap2 v w 0 0 []) fun e t=>e=.normal∧t=O9 v.length (v8 v w):=by
 refine aP.roundsN (ro:=none) hT hct bE (m:=0) (id:=0) (body:=aC 0 (aB f180)) (α:=Nat×List Int)
  (fun x=>x.1≤v.length∧x.2.length=x.1∧x.2++gP (R4 v w) (v.length-x.1) x.1=v8 v w) (fun x=>AB nl nl2 cap cap2 v w x.1 x.2.length x.2) (fun x=>v.length-x.1) (aE f180 0) (aG f180 0)
  (fun _=>O9 v.length (v8 v w)) (fun _=>[]) (fun _ _=>aL.nil) (fun x hx=> ?_) (0,[]) ⟨by simp,rfl,rfl⟩
 obtain⟨i,out⟩:=x
 obtain⟨h1,h2,h3⟩:=hx
 dsimp only at h1 h2 h3⊢
 by_cases hi:i<v.length
 ·have hk:v.length-i=(v.length-(i+1))+1:=by omega
  rw[hk]at h3
  simp only[gP]at h3
  refine⟨_,_,_,_,_,_,WC ct nl nl2 cap cap2 v w i out.length out, ?_,by simp,.inl ⟨rfl,(i+1,out++[R4 v w i]),⟨by omega,by simp[h2],by simpa using h3⟩,by dsimp only;omega, ?_,rfl⟩⟩
  ·simp;omega
  ·rw[aF (by omega) (by omega),Int.toNat_natCast,NC (aU hv i) (aU hw i)];simp[R4]
 ·have hz:v.length-i=0:=by omega
  rw[hz]at h3
  simp only[gP,List.append_nil]at h3
  have e:out.length=v.length:=by omega
  exact⟨_,_,_,_,_,_,WD ct nl nl2 cap cap2 v w i out.length out,by simp;omega,by simp,.inr ⟨rfl,by rw[←h3,e]⟩⟩
def KD:aO:=fun args h=>
 match args,h with
 |[.c (.view nl (.ints .i64 v) len 1 cap),.c (.view nl2 (.ints .i64 w) len2 1 cap2)],[]=>
  some (.c (.sl 0 0 v.length 1 none),[.live (.ints .i64 (v8 v w))],[decide (v.length≤274877906944),decide (v.length≤w.length),aD v,aD w])
 |_,_=>none
theorem a1V {ct:CT} (hct:bL Tryz.prog ct):aR Tryz.prog 270 KD:=by
 intro args h res h' o he ho
 unfold KD at he
 split at he
 ·rename_i nl v len cap nl2 w len2 cap2
  simp only[Option.some.injEq,Prod.mk.injEq]at he
  obtain⟨rfl,rfl,rfl⟩:=he
  simp only[List.mem_cons,List.not_mem_nil,or_false,forall_eq_or_imp,forall_eq,decide_eq_true_eq]at ho
  obtain⟨o1,o2,o3,o4⟩:=ho
  refine bF.len ⟨f180,by kernel_rfl,by kernel_rfl,by kernel_rfl⟩ fun hlen=> ?_
  simp only[List.mem_cons,List.not_mem_nil,or_false,forall_eq_or_imp,forall_eq,AV.lenOk,aI.lenOk,Con.size,Nat.mul_one]at hlen
  obtain⟨rfl,rfl⟩:=hlen
  exact cA hct (fn:=f180) (lc:=[(0,⟨aE f180 0,AB nl nl2 cap cap2 v w 0 0 [],.normal,O9 v.length (v8 v w)⟩)]) (fuel:=100) (p:=[]) (o:=⟨_,_,true,[AB nl nl2 cap cap2 v w 0 0 []=AB nl nl2 cap cap2 v w 0 0 []]⟩)
   (by kernel_rfl) (by kernel_rfl) (by kernel_rfl) rfl (by simp) (fun c hc=>aL.cons (c:=c) (by cases hc;kernel_rfl) (by cases hc;exact a9D hct nl nl2 cap cap2 v w o1 o2 o3 o4) aL.nil)
 ·cases he
end
section
def pL (v:List Int) (c:Int) (i:Nat):Int:=(v.getD i 0*c)%31
def dX (v:List Int) (c:Int):List Int:=gP (pL v c) v.length 0
noncomputable abbrev f156:=Tryz.f241
noncomputable def A8 (nl:Option Bool) (cap:Option Nat) (v:List Int) (c i:Int) (n:Nat) (out:List Int):St:=
 aS f156.ntmps [(0,.c (.view nl (.ints .i64 v) v.length 1 cap)),(1,.c (.int .i64 c)),(5,.c (.sl 0 0 n 1 none)),(6,.c (.int .i64 i))] [.live (.ints .i64 out)]
noncomputable def O4 (n:Nat) (out:List Int):St:=aS f156.ntmps [(5,.c (.sl 0 0 n 1 none))] [.live (.ints .i64 out)]
section
variable (ct : CT) (nl : Option Bool) (cap : Option Nat) (v : List Int) (c i : Int) (n : Nat) (out : List Int)
theorem VZ:aK 0 (aE f156 0) (aG f156 0) (aM tt ct [] 0 100 (aC 0 (aB f156)) (A8 nl cap v c i n out) [(0,true)])=
  some (.normal,(decide (i<v.length)&&(decide (0≤i)&&(decide (i<v.length)&&(decide (i.toNat<v.length)&&((decide (1=[(IntKind.i64.wrap (v.getD i.toNat 0*c)).tmod 31].length)&&(decide (n=out.length)&&(decide (n+1≤274877906944)&&true)))))))),[],
   A8 nl cap v c (IntKind.i64.wrap (i+1)) (n+1) (out++[(IntKind.i64.wrap (v.getD i.toNat 0*c)).tmod 31])):=by kernel_rfl
theorem W0:aK 0 (aE f156 0) (aG f156 0) (aM tt ct [] 0 100 (aC 0 (aB f156)) (A8 nl cap v c i n out) [(0,false)])=
  some (.exit 0,(!decide (i<v.length)&&true),[],O4 n out):=by kernel_rfl
end
theorem F5 {a b:Int} (ha:fok a=true) (hb:fok b=true):(IntKind.i64.wrap (a*b)).tmod 31=(a*b)%31:=by
 obtain⟨h1,h2⟩:=kX ha hb
 rw[oF ha hb,nK (by omega)]
theorem a98 {ct:CT} (hct:bL Tryz.prog ct) (nl:Option Bool) (cap:Option Nat) (v:List Int) (c:Int) (hl:v.length≤274877906944) (hv:aD v=true) (hc:fok c=true):
  aP none Tryz.prog 0 (.block 0 (.loop (aC 0 (aB f156)))) (A8 nl cap v c 0 0 []) fun e t=>e=.normal∧t=O4 v.length (dX v c):=by
 refine aP.roundsN (ro:=none) hT hct bE (m:=0) (id:=0) (body:=aC 0 (aB f156)) (α:=Nat×List Int)
  (fun x=>x.1≤v.length∧x.2.length=x.1∧x.2++gP (pL v c) (v.length-x.1) x.1=dX v c) (fun x=>A8 nl cap v c x.1 x.2.length x.2) (fun x=>v.length-x.1) (aE f156 0) (aG f156 0)
  (fun _=>O4 v.length (dX v c)) (fun _=>[]) (fun _ _=>aL.nil) (fun x hx=> ?_) (0,[]) ⟨by simp,rfl,rfl⟩
 obtain⟨i,out⟩:=x
 obtain⟨h1,h2,h3⟩:=hx
 dsimp only at h1 h2 h3⊢
 by_cases hi:i<v.length
 ·have hk:v.length-i=(v.length-(i+1))+1:=by omega
  rw[hk]at h3
  simp only[gP]at h3
  refine⟨_,_,_,_,_,_,VZ ct nl cap v c i out.length out, ?_,by simp,.inl ⟨rfl,(i+1,out++[pL v c i]),⟨by omega,by simp[h2],by simpa using h3⟩,by dsimp only;omega, ?_,rfl⟩⟩
  ·simp;omega
  ·rw[aF (by omega) (by omega),Int.toNat_natCast,F5 (aU hv i) hc];simp[pL]
 ·have hz:v.length-i=0:=by omega
  rw[hz]at h3
  simp only[gP,List.append_nil]at h3
  have e:out.length=v.length:=by omega
  exact⟨_,_,_,_,_,_,W0 ct nl cap v c i out.length out,by simp;omega,by simp,.inr ⟨rfl,by rw[←h3,e]⟩⟩
def rI:aO:=fun args h=>
 match args,h with
 |[.c (.view nl (.ints .i64 v) len 1 cap),.c (.int .i64 c)],[]=>
  some (.c (.sl 0 0 v.length 1 none),[.live (.ints .i64 (dX v c))],[decide (v.length≤274877906944),aD v,fok c])
 |_,_=>none
theorem UR {ct:CT} (hct:bL Tryz.prog ct):aR Tryz.prog 241 rI:=by
 intro args h res h' o he ho
 unfold rI at he
 split at he
 ·rename_i nl v len cap c
  simp only[Option.some.injEq,Prod.mk.injEq]at he
  obtain⟨rfl,rfl,rfl⟩:=he
  simp only[List.mem_cons,List.not_mem_nil,or_false,forall_eq_or_imp,forall_eq,decide_eq_true_eq]at ho
  obtain⟨o1,o2,o3⟩:=ho
  refine bF.len ⟨f156,by kernel_rfl,by kernel_rfl,by kernel_rfl⟩ fun hlen=> ?_
  simp only[List.mem_cons,List.not_mem_nil,or_false,forall_eq_or_imp,forall_eq,AV.lenOk,aI.lenOk,Con.size,Nat.mul_one]at hlen
  obtain⟨rfl,-⟩:=hlen
  exact cA hct (fn:=f156) (lc:=[(0,⟨aE f156 0,A8 nl cap v c 0 0 [],.normal,O4 v.length (dX v c)⟩)]) (fuel:=100) (p:=[]) (o:=⟨_,_,true,[A8 nl cap v c 0 0 []=A8 nl cap v c 0 0 []]⟩)
   (by kernel_rfl) (by kernel_rfl) (by kernel_rfl) rfl (by simp) (fun cc hc=>aL.cons (c:=cc) (by cases hc;kernel_rfl) (by cases hc;exact a98 hct nl cap v c o1 o2 o3) aL.nil)
 ·cases he
end
section
def fF (v:List Int):Nat→Nat→Option Nat
 |0,_=>none
 |k+1,i=>if v.getD i 0=0 then fF v k (i+1)else some i
def kB (v:List Int):Option Nat:=fF v v.length 0
def bB (v:List Int):Int:=match kB v with|some j=>(j:Int)|none=> -1
noncomputable abbrev f154:=Tryz.f239
noncomputable def r5 (nl:Option Bool) (cap:Option Nat) (v:List Int) (i:Int):St:=
 aS f154.ntmps [(0,.c (.view nl (.ints .i64 v) v.length 1 cap)),(3,.c (.int .i64 i))] []
noncomputable def TF:St:=aS f154.ntmps [] []
noncomputable def TJ (i:Int):St:=aS f154.ntmps [(2,.c (.int .i64 i))] []
section
variable (ct : CT) (nl : Option Bool) (cap : Option Nat) (v : List Int) (i : Int)
theorem VW:aK 0 (aE f154 0) (aG f154 0) (aM tt ct [] 0 100 (aC 0 (aB f154)) (r5 nl cap v i) [(0,true),(0,true)])=
  some (.ret,(decide (i<v.length)&&(decide (0≤i)&&(decide (i<v.length)&&(decide (i.toNat<v.length)&&(v.getD i.toNat 0 !=0&&true))))),[],TJ i):=by kernel_rfl
theorem VX:aK 0 (aE f154 0) (aG f154 0) (aM tt ct [] 0 100 (aC 0 (aB f154)) (r5 nl cap v i) [(0,true),(0,false)])=
  some (.normal,(decide (i<v.length)&&(decide (0≤i)&&(decide (i<v.length)&&(decide (i.toNat<v.length)&&(!(v.getD i.toNat 0 !=0)&&true))))),[],r5 nl cap v (IntKind.i64.wrap (i+1))):=by kernel_rfl
theorem VY:aK 0 (aE f154 0) (aG f154 0) (aM tt ct [] 0 100 (aC 0 (aB f154)) (r5 nl cap v i) [(0,false)])=
  some (.exit 0,(!decide (i<v.length)&&true),[],TF):=by kernel_rfl
end
def vO:Option Nat→Ex
 |some _=> .ret
 |none=> .normal
noncomputable def a1Z:Option Nat→St
 |some j=>TJ j
 |none=>TF
theorem a97 {ct:CT} (hct:bL Tryz.prog ct) (nl:Option Bool) (cap:Option Nat) (v:List Int) (hl:v.length≤274877906944):
  aP none Tryz.prog 0 (.block 0 (.loop (aC 0 (aB f154)))) (r5 nl cap v 0) fun e t=>e=vO (kB v)∧t=a1Z (kB v):=by
 refine aP.roundsR (ro:=none) hT hct bE (m:=0) (id:=0) (body:=aC 0 (aB f154)) (α:=Nat)
  (fun i=>i≤v.length∧fF v (v.length-i) i=kB v) (fun i=>r5 nl cap v i) (fun i=>v.length-i) (aE f154 0) (aG f154 0)
  (fun _=>vO (kB v)) (fun _=>a1Z (kB v)) (fun _=>[]) (fun _ _=>aL.nil) (fun i hx=> ?_) 0 ⟨by simp,rfl⟩
 obtain⟨h1,h3⟩:=hx
 by_cases hi:i<v.length
 ·have hk:v.length-i=(v.length-(i+1))+1:=by omega
  rw[hk]at h3
  simp only[fF]at h3
  by_cases hz:v.getD i 0=0
  ·rw[if_pos hz]at h3
   refine⟨_,_,_,_,_,_,VX ct nl cap v i, ?_,by simp,.inl ⟨rfl,i+1,⟨by omega,h3⟩,by omega, ?_,rfl,rfl⟩⟩
   ·simp[-List.getD_eq_getElem?_getD,hi,hz]
   ·rw[aF (by omega) (by omega)];simp
  ·rw[if_neg hz]at h3
   refine⟨_,_,_,_,_,_,VW ct nl cap v i, ?_,by simp,.inr (.inr ⟨by simp,by simp, ?_, ?_⟩)⟩
   ·simp[-List.getD_eq_getElem?_getD,hi,hz]
   ·rw[←h3];rfl
   ·rw[←h3];rfl
 ·have hz:v.length-i=0:=by omega
  rw[hz]at h3
  simp only[fF]at h3
  exact⟨_,_,_,_,_,_,VY ct nl cap v i,by simp;omega,by simp,.inr (.inl ⟨rfl,by rw[←h3];rfl,by rw[←h3];rfl⟩)⟩
def D1:aO:=fun args h=>
 match args,h with
 |[.c (.view nl (.ints .i64 v) len 1 cap)],[]=>some (.c (.int .i64 (bB v)),[],[decide (v.length≤274877906944)])
 |_,_=>none
theorem aAX {ct:CT} (hct:bL Tryz.prog ct):aR Tryz.prog 239 D1:=by
 intro args h res h' o he ho
 unfold D1 at he
 split at he
 ·rename_i nl v len cap
  simp only[Option.some.injEq,Prod.mk.injEq]at he
  obtain⟨rfl,rfl,rfl⟩:=he
  have o1:v.length≤274877906944:=by simpa using ho
  refine bF.len ⟨f154,by kernel_rfl,by kernel_rfl,by kernel_rfl⟩ fun hlen=> ?_
  simp only[List.mem_cons,List.not_mem_nil,or_false,forall_eq,AV.lenOk,aI.lenOk,Con.size,Nat.mul_one]at hlen
  subst hlen
  have g:=a97 hct nl cap v o1
  unfold bB
  cases hx:kB v with
  |none=>
   rw[hx]at g
   exact cA hct (fn:=f154) (lc:=[(0,⟨aE f154 0,r5 nl cap v 0,.normal,TF⟩)]) (fuel:=100) (p:=[]) (o:=⟨_,_,true,[r5 nl cap v 0=r5 nl cap v 0]⟩)
    (by kernel_rfl) (by kernel_rfl) (by kernel_rfl) rfl (by simp) (fun cc hc=>aL.cons (c:=cc) (by cases hc;kernel_rfl) (by cases hc;exact g) aL.nil)
  |some j=>
   rw[hx]at g
   exact cA hct (fn:=f154) (lc:=[(0,⟨aE f154 0,r5 nl cap v 0,.ret,TJ j⟩)]) (fuel:=100) (p:=[]) (o:=⟨_,_,true,[r5 nl cap v 0=r5 nl cap v 0]⟩)
    (by kernel_rfl) (by kernel_rfl) (by kernel_rfl) rfl (by simp) (fun cc hc=>aL.cons (c:=cc) (by cases hc;kernel_rfl) (by cases hc;exact g) aL.nil)
 ·cases he
end
section
def T6:List aZ:=[⟨162,[],JV⟩,⟨270,[],KD⟩,⟨241,[],rI⟩,⟨239,[],D1⟩]++T5
theorem e6:aA Tryz.prog T6:=by
 refine aA.append ?_ e5
 intro e he
 simp only[List.mem_cons,List.not_mem_nil,or_false]at he
 rcases he with rfl|rfl|rfl|rfl
 ·exact a9X t5
 ·exact a1V t5
 ·exact UR t5
 ·exact aAX t5
theorem t6:bL Tryz.prog (aH T6):=aQ e6
def HS (v:List Int):Nat→Nat→Bool
 |0,_=>true
 |k+1,i=>fok (v.getD i 0)&&HS v k (i+1)
theorem GG (v:List Int): ∀k i,k=v.length-i→HS v k i=(v.drop i).all fok
 |0,i,h=>by
  rw[List.drop_eq_nil_of_le (by omega)];rfl
 |k+1,i,h=>by
  have hi:i<v.length:=by omega
  rw[List.drop_eq_getElem_cons hi]
  simp only[HS,List.all_cons]
  rw[GG v k (i+1) (by omega),List.getD_eq_getElem?_getD,List.getElem?_eq_getElem hi];rfl
noncomputable abbrev f60:=Tryz.f113
noncomputable def I60 (nl:Option Bool) (cap:Option Nat) (v:List Int) (i:Int):St:=
 aS f60.ntmps [(0,.c (.view nl (.ints .i64 v) v.length 1 cap)),(3,.c (.int .i64 i))] []
noncomputable def X60 (nl:Option Bool) (cap:Option Nat) (v:List Int):St:=aS f60.ntmps [(0,.c (.view nl (.ints .i64 v) v.length 1 cap))] []
noncomputable def Y60 (nl:Option Bool) (cap:Option Nat) (v:List Int):St:=aS f60.ntmps [(0,.c (.view nl (.ints .i64 v) v.length 1 cap)),(2,.c (.bool false))] []
section
variable (nl : Option Bool) (cap : Option Nat) (v : List Int) (i : Int)
theorem a2V:aK 0 (aE f60 0) (aG f60 0) (aM tt (aH T6) [] 0 100 (aC 0 (aB f60)) (I60 nl cap v i) [(0,true),(0,true)])=
  some (.ret,(decide (i<v.length)&&(decide (0≤i)&&(decide (i<v.length)&&(decide (i.toNat<v.length)&&(!fok (v.getD i.toNat 0)&&true))))),[],Y60 nl cap v):=by kernel_rfl
theorem a2W:aK 0 (aE f60 0) (aG f60 0) (aM tt (aH T6) [] 0 100 (aC 0 (aB f60)) (I60 nl cap v i) [(0,true),(0,false)])=
  some (.normal,(decide (i<v.length)&&(decide (0≤i)&&(decide (i<v.length)&&(decide (i.toNat<v.length)&&(!!fok (v.getD i.toNat 0)&&true))))),[],I60 nl cap v (IntKind.i64.wrap (i+1))):=by kernel_rfl
theorem a2X:aK 0 (aE f60 0) (aG f60 0) (aM tt (aH T6) [] 0 100 (aC 0 (aB f60)) (I60 nl cap v i) [(0,false)])=
  some (.exit 0,(!decide (i<v.length)&&true),[],X60 nl cap v):=by kernel_rfl
end
def e60:Bool→Ex
 |true=> .normal
 |false=> .ret
noncomputable def p60 (nl:Option Bool) (cap:Option Nat) (v:List Int):Bool→St
 |true=>X60 nl cap v
 |false=>Y60 nl cap v
theorem l60 (nl:Option Bool) (cap:Option Nat) (v:List Int) (hl:v.length≤274877906944):
  aP none Tryz.prog 0 (.block 0 (.loop (aC 0 (aB f60)))) (I60 nl cap v 0) fun e t=>e=e60 (aD v)∧t=p60 nl cap v (aD v):=by
 refine aP.roundsR (ro:=none) hT t6 bE (m:=0) (id:=0) (body:=aC 0 (aB f60)) (α:=Nat)
  (fun i=>i≤v.length∧HS v (v.length-i) i=aD v) (fun i=>I60 nl cap v i) (fun i=>v.length-i) (aE f60 0) (aG f60 0)
  (fun _=>e60 (aD v)) (fun _=>p60 nl cap v (aD v)) (fun _=>[]) (fun _ _=>aL.nil) (fun i hx=> ?_) 0 ⟨by simp,by rw[GG v _ _ (by simp)];rfl⟩
 obtain⟨h1,h3⟩:=hx
 by_cases hi:i<v.length
 ·have hk:v.length-i=(v.length-(i+1))+1:=by omega
  rw[hk]at h3
  simp only[HS]at h3
  cases hz:fok (v.getD i 0)with
  |true=>
   rw[hz,Bool.true_and]at h3
   refine⟨_,_,_,_,_,_,a2W nl cap v i, ?_,by simp,.inl ⟨rfl,i+1,⟨by omega,h3⟩,by omega, ?_,rfl,rfl⟩⟩
   ·simp[-List.getD_eq_getElem?_getD,hi,hz]
   ·rw[aF (by omega) (by omega)];simp
  |false=>
   rw[hz,Bool.false_and]at h3
   refine⟨_,_,_,_,_,_,a2V nl cap v i, ?_,by simp,.inr (.inr ⟨by simp,by simp, ?_, ?_⟩)⟩
   ·simp[-List.getD_eq_getElem?_getD,hi,hz]
   ·rw[←h3];rfl
   ·rw[←h3];rfl
 ·have hz:v.length-i=0:=by omega
  rw[hz]at h3
  simp only[HS]at h3
  exact⟨_,_,_,_,_,_,a2X nl cap v i,by simp;omega,by simp,.inr (.inl ⟨rfl,by rw[←h3];rfl,by rw[←h3];rfl⟩)⟩
def vok (v:List Int):Bool:=aD v&&decide ((v.length:Int)=4)
def KJ:aO:=fun args h=>
 match args,h with
 |[.c (.view nl (.ints .i64 v) len 1 cap)],[]=>some (.c (.bool (vok v)),[],[decide (v.length≤274877906944)])
 |_,_=>none
theorem m60:aR Tryz.prog 113 KJ:=by
 intro args h res h' o he ho
 unfold KJ at he
 split at he
 ·rename_i nl v len cap
  simp only[Option.some.injEq,Prod.mk.injEq]at he
  obtain⟨rfl,rfl,rfl⟩:=he
  have o1:v.length≤274877906944:=by simpa using ho
  refine bF.len ⟨f60,by kernel_rfl,by kernel_rfl,by kernel_rfl⟩ fun hlen=> ?_
  simp only[List.mem_cons,List.not_mem_nil,or_false,forall_eq,AV.lenOk,aI.lenOk,Con.size,Nat.mul_one]at hlen
  subst hlen
  have g:=l60 nl cap v o1
  unfold vok
  cases hx:aD v with
  |true=>
   rw[hx]at g
   have hb:(true&&decide ((v.length:Int)=4))=((v.length:Int)==4):=by
    rw[Bool.true_and];by_cases h:(v.length:Int)=4<;>simp[h]
   rw[hb]
   exact cA t6 (fn:=f60) (lc:=[(0,⟨aE f60 0,I60 nl cap v 0,.normal,X60 nl cap v⟩)]) (fuel:=100) (p:=[]) (o:=⟨_,_,true,[I60 nl cap v 0=I60 nl cap v 0]⟩)
    (by kernel_rfl) (by kernel_rfl) (by kernel_rfl) rfl (by simp) (fun cc hc=>aL.cons (c:=cc) (by cases hc;kernel_rfl) (by cases hc;exact g) aL.nil)
  |false=>
   rw[hx]at g
   exact cA t6 (fn:=f60) (lc:=[(0,⟨aE f60 0,I60 nl cap v 0,.ret,Y60 nl cap v⟩)]) (fuel:=100) (p:=[]) (o:=⟨_,_,true,[I60 nl cap v 0=I60 nl cap v 0]⟩)
    (by kernel_rfl) (by kernel_rfl) (by kernel_rfl) rfl (by simp) (fun cc hc=>aL.cons (c:=cc) (by cases hc;kernel_rfl) (by cases hc;exact g) aL.nil)
 ·cases he
end
section
def D4:aO:=fun args h=>
 match args,h with
 |[.c (.int .i64 n)],[]=>some (.c (.bool (!fok n)),[],[])
 |_,_=>none
theorem aAP:aR Tryz.prog 250 D4:=by
 intro args h res h' o he ho
 unfold D4 at he
 split at he
 ·rename_i n
  simp only[Option.some.injEq,Prod.mk.injEq]at he
  obtain⟨rfl,rfl,rfl⟩:=he
  have e:aJ tt (aH T6) [] 100 Tryz.f250 [.c (.int .i64 n)] [] []=some ⟨.c (.bool (!fok n)),[],true,[]⟩:=by kernel_rfl
  exact mo t6 e rfl
 ·cases he
def T7:List aZ:=[⟨113,[],KJ⟩,⟨250,[],D4⟩]++T6
theorem e7:aA Tryz.prog T7:=by
 refine aA.append ?_ e6
 intro e he
 simp only[List.mem_cons,List.not_mem_nil,or_false]at he
 rcases he with rfl|rfl
 ·exact m60
 ·exact aAP
theorem t7:bL Tryz.prog (aH T7):=aQ e7
def dO (q:Int→Bool) (v:List Int):Nat→Nat→Option Nat
 |0,_=>none
 |k+1,i=>bif q (v.getD i 0)then some i else dO q v k (i+1)
def eW (q:Int→Bool) (v:List Int):Option Nat:=dO q v v.length 0
def eE (q:Int→Bool) (v:List Int):Int:=match eW q v with|some j=>(j:Int)|none=> -1
noncomputable abbrev iA:=Tryz.f122
noncomputable def qZ (nl:Option Bool) (cap:Option Nat) (v:List Int) (i:Int):St:=
 aS iA.ntmps [(0,.c (.view nl (.ints .i64 v) v.length 1 cap)),(1,.c (.fn 250 [])),(7,.c (.int .i64 v.length)),(8,.c (.int .i64 i))] []
noncomputable def TE:St:=aS iA.ntmps [] []
noncomputable def TH (i:Int):St:=aS iA.ntmps [(4,.c (.int .i64 i))] []
section
variable (nl : Option Bool) (cap : Option Nat) (v : List Int) (i : Int)
theorem VQ:aK 0 (aE iA 0) (aG iA 0) (aM tt (aH T7) [] 0 100 (aC 0 (aB iA)) (qZ nl cap v i) [(0,true),(0,true)])=
  some (.ret,(decide (i<v.length)&&(decide (0≤i)&&(decide (i<v.length)&&(decide (i.toNat<v.length)&&(!fok (v.getD i.toNat 0)&&true))))),[],TH i):=by kernel_rfl
theorem VS:aK 0 (aE iA 0) (aG iA 0) (aM tt (aH T7) [] 0 100 (aC 0 (aB iA)) (qZ nl cap v i) [(0,true),(0,false)])=
  some (.normal,(decide (i<v.length)&&(decide (0≤i)&&(decide (i<v.length)&&(decide (i.toNat<v.length)&&(!!fok (v.getD i.toNat 0)&&true))))),[],qZ nl cap v (IntKind.i64.wrap (i+1))):=by kernel_rfl
theorem VT:aK 0 (aE iA 0) (aG iA 0) (aM tt (aH T7) [] 0 100 (aC 0 (aB iA)) (qZ nl cap v i) [(0,false)])=
  some (.exit 0,(!decide (i<v.length)&&true),[],TE):=by kernel_rfl
end
noncomputable def a1Y:Option Nat→St
 |some j=>TH j
 |none=>TE
theorem a95 (nl:Option Bool) (cap:Option Nat) (v:List Int) (hl:v.length≤274877906944):
  aP none Tryz.prog 0 (.block 0 (.loop (aC 0 (aB iA)))) (qZ nl cap v 0) fun e t=>e=vO (eW (fun x=> !fok x) v)∧t=a1Y (eW (fun x=> !fok x) v):=by
 refine aP.roundsR (ro:=none) hT t7 bE (m:=0) (id:=0) (body:=aC 0 (aB iA)) (α:=Nat)
  (fun i=>i≤v.length∧dO (fun x=> !fok x) v (v.length-i) i=eW (fun x=> !fok x) v) (fun i=>qZ nl cap v i) (fun i=>v.length-i) (aE iA 0) (aG iA 0)
  (fun _=>vO (eW (fun x=> !fok x) v)) (fun _=>a1Y (eW (fun x=> !fok x) v)) (fun _=>[]) (fun _ _=>aL.nil) (fun i hx=> ?_) 0 ⟨by simp,rfl⟩
 obtain⟨h1,h3⟩:=hx
 by_cases hi:i<v.length
 ·have hk:v.length-i=(v.length-(i+1))+1:=by omega
  rw[hk]at h3
  simp only[dO]at h3
  cases hz:fok (v.getD i 0)with
  |true=>
   rw[hz]at h3
   refine⟨_,_,_,_,_,_,VS nl cap v i, ?_,by simp,.inl ⟨rfl,i+1,⟨by omega,by simpa using h3⟩,by omega, ?_,rfl,rfl⟩⟩
   ·simp[-List.getD_eq_getElem?_getD,hi,hz]
   ·rw[aF (by omega) (by omega)];simp
  |false=>
   rw[hz]at h3
   simp only[Bool.not_false,cond_true]at h3
   refine⟨_,_,_,_,_,_,VQ nl cap v i, ?_,by simp,.inr (.inr ⟨by simp,by simp, ?_, ?_⟩)⟩
   ·simp[-List.getD_eq_getElem?_getD,hi,hz]
   ·rw[←h3];rfl
   ·rw[←h3];rfl
 ·have hz:v.length-i=0:=by omega
  rw[hz]at h3
  simp only[dO]at h3
  exact⟨_,_,_,_,_,_,VT nl cap v i,by simp;omega,by simp,.inr (.inl ⟨rfl,by rw[←h3];rfl,by rw[←h3];rfl⟩)⟩
def xP:aO:=fun args h=>
 match args,h with
 |[.c (.view nl (.ints .i64 v) len 1 cap),.c (.fn 250 [])],[]=>some (.c (.int .i64 (eE (fun x=> !fok x) v)),[],[decide (v.length≤274877906944)])
 |_,_=>none
theorem aAQ:aR Tryz.prog 122 xP:=by
 intro args h res h' o he ho
 unfold xP at he
 split at he
 ·rename_i nl v len cap
  simp only[Option.some.injEq,Prod.mk.injEq]at he
  obtain⟨rfl,rfl,rfl⟩:=he
  have o1:v.length≤274877906944:=by simpa using ho
  refine bF.len ⟨iA,by kernel_rfl,by kernel_rfl,by kernel_rfl⟩ fun hlen=> ?_
  simp only[List.mem_cons,List.not_mem_nil,or_false,forall_eq_or_imp,forall_eq,AV.lenOk,aI.lenOk,Con.size,Nat.mul_one]at hlen
  obtain⟨rfl,-⟩:=hlen
  have g:=a95 nl cap v o1
  unfold eE
  cases hx:eW (fun x=> !fok x) v with
  |none=>
   rw[hx]at g
   exact cA t7 (fn:=iA) (lc:=[(0,⟨aE iA 0,qZ nl cap v 0,.normal,TE⟩)]) (fuel:=100) (p:=[]) (o:=⟨_,_,true,[qZ nl cap v 0=qZ nl cap v 0]⟩)
    (by kernel_rfl) (by kernel_rfl) (by kernel_rfl) rfl (by simp) (fun cc hc=>aL.cons (c:=cc) (by cases hc;kernel_rfl) (by cases hc;exact g) aL.nil)
  |some j=>
   rw[hx]at g
   exact cA t7 (fn:=iA) (lc:=[(0,⟨aE iA 0,qZ nl cap v 0,.ret,TH j⟩)]) (fuel:=100) (p:=[]) (o:=⟨_,_,true,[qZ nl cap v 0=qZ nl cap v 0]⟩)
    (by kernel_rfl) (by kernel_rfl) (by kernel_rfl) rfl (by simp) (fun cc hc=>aL.cons (c:=cc) (by cases hc;kernel_rfl) (by cases hc;exact g) aL.nil)
 ·cases he
end
section
def T8:List aZ:=[⟨122,[],xP⟩]++T7
theorem e8:aA Tryz.prog T8:=by
 refine aA.append ?_ e7
 intro e he
 simp only[List.mem_cons,List.not_mem_nil,or_false]at he
 subst he;exact aAQ
theorem t8:bL Tryz.prog (aH T8):=aQ e8
theorem B6 (q:Int→Bool) (v:List Int): ∀k i,k=v.length-i→(match dO q v k i with|some j=>true|none=>false)=(v.drop i).any q
 |0,i,h=>by rw[List.drop_eq_nil_of_le (by omega)];rfl
 |k+1,i,h=>by
  have hi:i<v.length:=by omega
  rw[List.drop_eq_getElem_cons hi]
  simp only[dO,List.any_cons]
  have e:v.getD i 0=v[i]:=by rw[List.getD_eq_getElem?_getD,List.getElem?_eq_getElem hi];rfl
  rw[e]
  cases q v[i]with
  |true=>rfl
  |false=>rw[cond_false,B6 q v k (i+1) (by omega),Bool.false_or]
theorem P7 (v:List Int):decide (eE (fun x=> !fok x) v≥0)= !aD v:=by
 have h:=B6 (fun x=> !fok x) v v.length 0 (by simp)
 have e:(v.drop 0).any (fun x=> !fok x)= !aD v:=by
  rw[List.drop_zero,aD,List.any_eq_not_all_not];simp
 rw[e]at h
 rw[←h]
 unfold eE eW
 cases dO (fun x=> !fok x) v v.length 0<;>simp
def s8:aO:=fun args h=>
 match args,h with
 |[.c (.view nl (.ints .i64 v) len 1 cap),.c (.fn 250 [])],[]=>some (.c (.bool (!aD v)),[],[decide (v.length≤274877906944)])
 |_,_=>none
theorem aA8:aR Tryz.prog 68 s8:=by
 intro args h res h' o he ho
 unfold s8 at he
 split at he
 ·rename_i nl v len cap
  simp only[Option.some.injEq,Prod.mk.injEq]at he
  obtain⟨rfl,rfl,rfl⟩:=he
  have e:aJ tt (aH T8) [] 100 Tryz.f68 [.c (.view nl (.ints .i64 v) len 1 cap),.c (.fn 250 [])] [] []=
    some ⟨.c (.bool (decide (eE (fun x=> !fok x) v≥0))),[],decide (v.length≤274877906944)&&true,[]⟩:=by kernel_rfl
  rw[P7]at e
  exact mo t8 e (by simpa using ho)
 ·cases he
def T9:List aZ:=[⟨68,[],s8⟩]++T8
theorem e9:aA Tryz.prog T9:=by
 refine aA.append ?_ e8
 intro e he
 simp only[List.mem_cons,List.not_mem_nil,or_false]at he
 subst he;exact aA8
theorem t9:bL Tryz.prog (aH T9):=aQ e9
def bG (v:List Int) (n:Int):Bool:=aD v&&((v.length:Int)==n)
def JW:aO:=fun args h=>
 match args,h with
 |[.c (.view nl (.ints .i64 v) len 1 cap),.c (.int .i64 n)],[]=>some (.c (.bool (bG v n)),[],[decide (v.length≤274877906944)])
 |_,_=>none
theorem aA5:aR Tryz.prog 214 JW:=by
 intro args h res h' o he ho
 unfold JW at he
 split at he
 ·rename_i nl v len cap n
  simp only[Option.some.injEq,Prod.mk.injEq]at he
  obtain⟨rfl,rfl,rfl⟩:=he
  have o1:v.length≤274877906944:=by simpa using ho
  refine bF.len ⟨Tryz.f214,by kernel_rfl,by kernel_rfl,by kernel_rfl⟩ fun hlen=> ?_
  simp only[List.mem_cons,List.not_mem_nil,or_false,forall_eq_or_imp,forall_eq,AV.lenOk,aI.lenOk,Con.size,Nat.mul_one]at hlen
  obtain⟨rfl,-⟩:=hlen
  cases hc:((v.length:Int)==n)with
  |true=>
   have e:aJ tt (aH T9) [] 100 Tryz.f214 [.c (.view nl (.ints .i64 v) v.length 1 cap),.c (.int .i64 n)] [] [(0,true)]=
     some ⟨.c (.bool (bif (v.length:Int)==n then !!aD v else false)),[],((v.length:Int)==n)&&(((v.length:Int)==n)&&(decide (v.length≤274877906944)&&(((v.length:Int)==n)&&true))),[]⟩:=by kernel_rfl
   have hr:(bif (v.length:Int)==n then !!aD v else false)=bG v n:=by simp[bG,hc]
   rw[hr]at e
   exact mo t9 e (by simp[hc,o1])
  |false=>
   have e:aJ tt (aH T9) [] 100 Tryz.f214 [.c (.view nl (.ints .i64 v) v.length 1 cap),.c (.int .i64 n)] [] [(0,false)]=
     some ⟨.c (.bool false),[], !((v.length:Int)==n)&&(!((v.length:Int)==n)&&(!((v.length:Int)==n)&&(!((v.length:Int)==n)&&true))),[]⟩:=by kernel_rfl
   have hr:false=bG v n:=by simp[bG,hc]
   rw[hr]at e
   exact mo t9 e (by simp[hc])
 ·cases he
end
section
def T10:List aZ:=[⟨214,[],JW⟩]++T9
theorem e10:aA Tryz.prog T10:=by
 refine aA.append ?_ e9
 intro e he
 simp only[List.mem_cons,List.not_mem_nil,or_false]at he
 subst he;exact aA5
theorem t10:bL Tryz.prog (aH T10):=aQ e10
def ifI (b:Bool) (n:Int):Int:=bif b then n else 0
def X5 (v:List Int) (b:Bool):AV:=
 .tup [.agg [.int .i64 (ifI b (v.getD 0 0)),.int .i64 (ifI b (v.getD 1 0)),.int .i64 (ifI b (v.getD 2 0)),.int .i64 (ifI b (v.getD 3 0))],.c (.bool b)]
def KI:aO:=fun args h=>
 match args,h with
 |[.c (.view nl (.ints .i64 v) len 1 cap)],[]=>some (X5 v (bG v 4),[],[decide (v.length≤274877906944)])
 |_,_=>none
theorem a8R {v:List Int} (h:bG v 4=true): ∃a b c d,v=[a,b,c,d]:=by
 simp only[bG,Bool.and_eq_true,rpS,beq_iff_eq]at h
 have h4:v.length=4:=by omega
 match v,h4 with
 |[a,b,c,d],_=>exact⟨a,b,c,d,rfl⟩
theorem m67:aR Tryz.prog 176 KI:=by
 intro args h res h' o he ho
 unfold KI at he
 split at he
 ·rename_i nl v len cap
  simp only[Option.some.injEq,Prod.mk.injEq]at he
  obtain⟨rfl,rfl,rfl⟩:=he
  have o1:v.length≤274877906944:=by simpa using ho
  refine bF.len ⟨Tryz.f176,by kernel_rfl,by kernel_rfl,by kernel_rfl⟩ fun hlen=> ?_
  simp only[List.mem_cons,List.not_mem_nil,or_false,forall_eq,AV.lenOk,aI.lenOk,Con.size,Nat.mul_one]at hlen
  subst hlen
  cases hc:bG v 4 with
  |true=>
   obtain⟨a,b,c,d,rfl⟩:=a8R hc
   have e:aJ tt (aH T10) [] 100 Tryz.f176 [.c (.view nl (.ints .i64 [a,b,c,d]) [a,b,c,d].length 1 cap)] [] [(0,false)]=
     some ⟨X5 [a,b,c,d] true,[], !!bG [a,b,c,d] 4&&true,[]⟩:=by kernel_rfl
   exact mo t10 e (by simp[hc])
  |false=>
   have e:aJ tt (aH T10) [] 100 Tryz.f176 [.c (.view nl (.ints .i64 v) v.length 1 cap)] [] [(0,true)]=
     some ⟨X5 v false,[],decide (v.length≤274877906944)&&(!bG v 4&&true),[]⟩:=by kernel_rfl
   exact mo t10 e (by simp[hc,o1])
 ·cases he
def y6:aO:=fun args h=>
 match args,h with
 |[.c (.view nl (.ints .i64 v) len 1 cap)],[]=>some (.c (.bool (bG v 4)),[],[decide (v.length≤274877906944)])
 |_,_=>none
theorem m91:aR Tryz.prog 225 y6:=by
 intro args h res h' o he ho
 unfold y6 at he
 split at he
 ·rename_i nl v len cap
  simp only[Option.some.injEq,Prod.mk.injEq]at he
  obtain⟨rfl,rfl,rfl⟩:=he
  have e:aJ tt (aH T10) [] 100 Tryz.f225 [.c (.view nl (.ints .i64 v) len 1 cap)] [] []=some ⟨.c (.bool (bG v 4)),[],decide (v.length≤274877906944)&&true,[]⟩:=by kernel_rfl
  exact mo t10 e (by simpa using ho)
 ·cases he
end
section
def T11:List aZ:=[⟨176,[],KI⟩,⟨225,[],y6⟩]++T10
theorem e11:aA Tryz.prog T11:=by
 refine aA.append ?_ e10
 intro e he
 simp only[List.mem_cons,List.not_mem_nil,or_false]at he
 rcases he with rfl|rfl
 ·exact m67
 ·exact m91
theorem t11:bL Tryz.prog (aH T11):=aQ e11
def dS (k:Int) (v:List Int) (j:Int):Int:=
 EB ((bH k j).getD 0 0) ((bH k j).getD 1 0) ((bH k j).getD 2 0) ((bH k j).getD 3 0) (v.getD 0 0) (v.getD 1 0) (v.getD 2 0) (v.getD 3 0)
def mC (k:Int) (v:List Int):List Int:=[dS k v 0,dS k v 1,dS k v 2,dS k v 3,dS k v 4,dS k v 5,dS k v 6,dS k v 7]
def JX:aO:=fun args h=>
 match args,h with
 |[.c (.int .i64 k),.agg [.int .i64 a,.int .i64 b,.int .i64 c,.int .i64 d]],[]=>some (.c (.sl 0 0 8 1 none),[.live (.ints .i64 (mC k [a,b,c,d]))],[bet k 1 2,fok a,fok b,fok c,fok d])
 |_,_=>none
theorem two {k:Int} (h:bet k 1 2=true):k=1∨k=2:=by
 simp only[bet,Bool.and_eq_true,rpS,decide_eq_true_eq]at h;omega
theorem m74:aR Tryz.prog 182 JX:=by
 intro args h res h' o he ho
 unfold JX at he
 split at he
 ·rename_i k a b c d
  simp only[Option.some.injEq,Prod.mk.injEq]at he
  obtain⟨rfl,rfl,rfl⟩:=he
  simp only[List.mem_cons,List.not_mem_nil,or_false,forall_eq_or_imp,forall_eq]at ho
  rcases two ho.1 with rfl|rfl
  ·skip
   have e:aJ tt (aH T11) [] 1000 Tryz.f182 [.c (.int .i64 1),.agg [.int .i64 a,.int .i64 b,.int .i64 c,.int .i64 d]] [] []=
     some ⟨.c (.sl 0 0 8 1 none),[.live (.ints .i64 (mC 1 [a,b,c,d]))],(fok a&&(fok b&&(fok c&&(fok d&&(fok a&&(fok b&&(fok c&&(fok d&&(fok a&&(fok b&&(fok c&&(fok d&&(fok a&&(fok b&&(fok c&&(fok d&&(fok a&&(fok b&&(fok c&&(fok d&&(fok a&&(fok b&&(fok c&&(fok d&&(fok a&&(fok b&&(fok c&&(fok d&&(fok a&&(fok b&&(fok c&&(fok d&&true)))))))))))))))))))))))))))))))),[]⟩:=by kernel_rfl
   exact mo t11 e (by simp[ho])
  ·skip
   have e:aJ tt (aH T11) [] 1000 Tryz.f182 [.c (.int .i64 2),.agg [.int .i64 a,.int .i64 b,.int .i64 c,.int .i64 d]] [] []=
     some ⟨.c (.sl 0 0 8 1 none),[.live (.ints .i64 (mC 2 [a,b,c,d]))],(fok a&&(fok b&&(fok c&&(fok d&&(fok a&&(fok b&&(fok c&&(fok d&&(fok a&&(fok b&&(fok c&&(fok d&&(fok a&&(fok b&&(fok c&&(fok d&&(fok a&&(fok b&&(fok c&&(fok d&&(fok a&&(fok b&&(fok c&&(fok d&&(fok a&&(fok b&&(fok c&&(fok d&&(fok a&&(fok b&&(fok c&&(fok d&&true)))))))))))))))))))))))))))))))),[]⟩:=by kernel_rfl
   exact mo t11 e (by simp[ho])
 ·cases he
end
section
def SL:aO:=fun args h=>
 match args,h with
 |[.c (.int .i64 n)],[]=>some (.c (.bool (n !=0)),[],[])
 |_,_=>none
theorem aBG:aR Tryz.prog 285 SL:=by
 intro args h res h' o he ho
 unfold SL at he
 split at he
 ·rename_i n
  simp only[Option.some.injEq,Prod.mk.injEq]at he
  obtain⟨rfl,rfl,rfl⟩:=he
  have e:aJ tt (aH T11) [] 100 Tryz.f285 [.c (.int .i64 n)] [] []=some ⟨.c (.bool (n !=0)),[],true,[]⟩:=by kernel_rfl
  exact mo t11 e rfl
 ·cases he
def sD:aO:=fun args h=>
 match args,h with
 |[.agg [.int .i64 a,.int .i64 b,.int .i64 c,.int .i64 d],.agg [.int .i64 x,.int .i64 y,.int .i64 z,.int .i64 t]],[]=>
  some (.agg [.int .i64 ((a+x*30%31)%31),.int .i64 ((b+y*30%31)%31),.int .i64 ((c+z*30%31)%31),.int .i64 ((d+t*30%31)%31)],[],[fok a,fok x,fok b,fok y,fok c,fok z,fok d,fok t])
 |_,_=>none
def T12:List aZ:=[⟨182,[],JX⟩,⟨285,[],SL⟩]++T11
theorem e12:aA Tryz.prog T12:=by
 refine aA.append ?_ e11
 intro e he
 simp only[List.mem_cons,List.not_mem_nil,or_false]at he
 rcases he with rfl|rfl
 ·exact m74
 ·exact aBG
theorem t12:bL Tryz.prog (aH T12):=aQ e12
theorem aB5:aR Tryz.prog 258 sD:=by
 intro args h res h' o he ho
 unfold sD at he
 split at he
 ·rename_i a b c d x y z t
  simp only[Option.some.injEq,Prod.mk.injEq]at he
  obtain⟨rfl,rfl,rfl⟩:=he
  have e:aJ tt (aH T12) [] 100 Tryz.f258 [.agg [.int .i64 a,.int .i64 b,.int .i64 c,.int .i64 d],.agg [.int .i64 x,.int .i64 y,.int .i64 z,.int .i64 t]] [] []=
   some ⟨.agg [.int .i64 ((a+x*30%31)%31),.int .i64 ((b+y*30%31)%31),.int .i64 ((c+z*30%31)%31),.int .i64 ((d+t*30%31)%31)],[],
    (fok x&&(fok y&&(fok z&&(fok t&&(fok a&&(fok (x*30%31)&&(fok b&&(fok (y*30%31)&&(fok c&&(fok (z*30%31)&&(fok d&&(fok (t*30%31)&&true)))))))))))),[]⟩:=by kernel_rfl
  simp only[List.mem_cons,List.not_mem_nil,or_false,forall_eq_or_imp,forall_eq]at ho
  exact mo t12 e (by simp[ho,cB])
 ·cases he
end
section
def T13:List aZ:=[⟨258,[],sD⟩]++T12
theorem e13:aA Tryz.prog T13:=by
 refine aA.append ?_ e12
 intro e he
 simp only[List.mem_cons,List.not_mem_nil,or_false]at he
 subst he;exact aB5
theorem t13:bL Tryz.prog (aH T13):=aQ e13
noncomputable abbrev f183:=Tryz.f284
noncomputable def r6 (nl:Option Bool) (cap:Option Nat) (v:List Int) (i:Int):St:=
 aS f183.ntmps [(0,.c (.view nl (.ints .i64 v) v.length 1 cap)),(1,.c (.fn 285 [])),(7,.c (.int .i64 v.length)),(8,.c (.int .i64 i))] []
noncomputable def TG:St:=aS f183.ntmps [] []
noncomputable def TK (i:Int):St:=aS f183.ntmps [(4,.c (.int .i64 i))] []
section
variable (nl : Option Bool) (cap : Option Nat) (v : List Int) (i : Int)
theorem WG:aK 0 (aE f183 0) (aG f183 0) (aM tt (aH T13) [] 0 100 (aC 0 (aB f183)) (r6 nl cap v i) [(0,true),(0,true)])=
  some (.ret,(decide (i<v.length)&&(decide (0≤i)&&(decide (i<v.length)&&(decide (i.toNat<v.length)&&((v.getD i.toNat 0 !=0)&&true))))),[],TK i):=by kernel_rfl
theorem WH:aK 0 (aE f183 0) (aG f183 0) (aM tt (aH T13) [] 0 100 (aC 0 (aB f183)) (r6 nl cap v i) [(0,true),(0,false)])=
  some (.normal,(decide (i<v.length)&&(decide (0≤i)&&(decide (i<v.length)&&(decide (i.toNat<v.length)&&(!(v.getD i.toNat 0 !=0)&&true))))),[],r6 nl cap v (IntKind.i64.wrap (i+1))):=by kernel_rfl
theorem WI:aK 0 (aE f183 0) (aG f183 0) (aM tt (aH T13) [] 0 100 (aC 0 (aB f183)) (r6 nl cap v i) [(0,false)])=
  some (.exit 0,(!decide (i<v.length)&&true),[],TG):=by kernel_rfl
end
noncomputable def a20:Option Nat→St
 |some j=>TK j
 |none=>TG
theorem a9F (nl:Option Bool) (cap:Option Nat) (v:List Int) (hl:v.length≤274877906944):
  aP none Tryz.prog 0 (.block 0 (.loop (aC 0 (aB f183)))) (r6 nl cap v 0) fun e t=>e=vO (eW (fun x=>x !=0) v)∧t=a20 (eW (fun x=>x !=0) v):=by
 refine aP.roundsR (ro:=none) hT t13 bE (m:=0) (id:=0) (body:=aC 0 (aB f183)) (α:=Nat)
  (fun i=>i≤v.length∧dO (fun x=>x !=0) v (v.length-i) i=eW (fun x=>x !=0) v) (fun i=>r6 nl cap v i) (fun i=>v.length-i) (aE f183 0) (aG f183 0)
  (fun _=>vO (eW (fun x=>x !=0) v)) (fun _=>a20 (eW (fun x=>x !=0) v)) (fun _=>[]) (fun _ _=>aL.nil) (fun i hx=> ?_) 0 ⟨by simp,rfl⟩
 obtain⟨h1,h3⟩:=hx
 by_cases hi:i<v.length
 ·have hk:v.length-i=(v.length-(i+1))+1:=by omega
  rw[hk]at h3
  simp only[dO]at h3
  cases hz:(v.getD i 0 !=0)with
  |false=>
   rw[hz]at h3
   refine⟨_,_,_,_,_,_,WH nl cap v i, ?_,by simp,.inl ⟨rfl,i+1,⟨by omega,by simpa using h3⟩,by omega, ?_,rfl,rfl⟩⟩
   ·rw[Int.toNat_natCast,hz];simp[hi]
   ·rw[aF (by omega) (by omega)];simp
  |true=>
   rw[hz]at h3
   simp only[cond_true]at h3
   refine⟨_,_,_,_,_,_,WG nl cap v i, ?_,by simp,.inr (.inr ⟨by simp,by simp, ?_, ?_⟩)⟩
   ·rw[Int.toNat_natCast,hz];simp[hi]
   ·rw[←h3];rfl
   ·rw[←h3];rfl
 ·have hz:v.length-i=0:=by omega
  rw[hz]at h3
  simp only[dO]at h3
  exact⟨_,_,_,_,_,_,WI nl cap v i,by simp;omega,by simp,.inr (.inl ⟨rfl,by rw[←h3];rfl,by rw[←h3];rfl⟩)⟩
def xN:aO:=fun args h=>
 match args,h with
 |[.c (.view nl (.ints .i64 v) len 1 cap),.c (.fn 285 [])],[]=>some (.c (.int .i64 (eE (fun x=>x !=0) v)),[],[decide (v.length≤274877906944)])
 |_,_=>none
theorem aBF:aR Tryz.prog 284 xN:=by
 intro args h res h' o he ho
 unfold xN at he
 split at he
 ·rename_i nl v len cap
  simp only[Option.some.injEq,Prod.mk.injEq]at he
  obtain⟨rfl,rfl,rfl⟩:=he
  have o1:v.length≤274877906944:=by simpa using ho
  refine bF.len ⟨f183,by kernel_rfl,by kernel_rfl,by kernel_rfl⟩ fun hlen=> ?_
  simp only[List.mem_cons,List.not_mem_nil,or_false,forall_eq_or_imp,forall_eq,AV.lenOk,aI.lenOk,Con.size,Nat.mul_one]at hlen
  obtain⟨rfl,-⟩:=hlen
  have g:=a9F nl cap v o1
  unfold eE
  cases hx:eW (fun x=>x !=0) v with
  |none=>
   rw[hx]at g
   exact cA t13 (fn:=f183) (lc:=[(0,⟨aE f183 0,r6 nl cap v 0,.normal,TG⟩)]) (fuel:=100) (p:=[]) (o:=⟨_,_,true,[r6 nl cap v 0=r6 nl cap v 0]⟩)
    (by kernel_rfl) (by kernel_rfl) (by kernel_rfl) rfl (by simp) (fun cc hc=>aL.cons (c:=cc) (by cases hc;kernel_rfl) (by cases hc;exact g) aL.nil)
  |some j=>
   rw[hx]at g
   exact cA t13 (fn:=f183) (lc:=[(0,⟨aE f183 0,r6 nl cap v 0,.ret,TK j⟩)]) (fuel:=100) (p:=[]) (o:=⟨_,_,true,[r6 nl cap v 0=r6 nl cap v 0]⟩)
    (by kernel_rfl) (by kernel_rfl) (by kernel_rfl) rfl (by simp) (fun cc hc=>aL.cons (c:=cc) (by cases hc;kernel_rfl) (by cases hc;exact g) aL.nil)
 ·cases he
def T14:List aZ:=[⟨284,[],xN⟩]++T13
theorem e14:aA Tryz.prog T14:=by
 refine aA.append ?_ e13
 intro e he
 simp only[List.mem_cons,List.not_mem_nil,or_false]at he
 subst he;exact aBF
theorem t14:bL Tryz.prog (aH T14):=aQ e14
def y7:aO:=fun args h=>
 match args,h with
 |[.agg [.int .i64 a,.int .i64 b,.int .i64 c,.int .i64 d]],[]=>some (.c (.int .i64 (eE (fun x=>x !=0) [a,b,c,d])),[],[])
 |_,_=>none
theorem aB4:aR Tryz.prog 257 y7:=by
 intro args h res h' o he ho
 unfold y7 at he
 split at he
 ·rename_i a b c d
  simp only[Option.some.injEq,Prod.mk.injEq]at he
  obtain⟨rfl,rfl,rfl⟩:=he
  have e:aJ tt (aH T14) [] 100 Tryz.f257 [.agg [.int .i64 a,.int .i64 b,.int .i64 c,.int .i64 d]] [] []=some ⟨.c (.int .i64 (eE (fun x=>x !=0) [a,b,c,d])),[],true,[]⟩:=by kernel_rfl
  exact mo t14 e rfl
 ·cases he
end
section
def T15:List aZ:=[⟨257,[],y7⟩]++T14
theorem e15:aA Tryz.prog T15:=by
 refine aA.append ?_ e14
 intro e he
 simp only[List.mem_cons,List.not_mem_nil,or_false]at he
 subst he;exact aB4
theorem t15:bL Tryz.prog (aH T15):=aQ e15
def BU (k a:Int):List Int:=[(bH k a).getD 0 0,(bH k a).getD 1 0,(bH k a).getD 2 0,(bH k a).getD 3 0]
def jB (k:Int) (v:List Int):Nat→Nat→List Int
 |0,_=>[]
 |m+1,i=>BU k (v.getD i 0)++jB k v m (i+1)
def gC (k:Int) (v:List Int):List Int:=jB k v v.length 0
def bD (v:List Int):Bool:=v.all fun a=>bet a 0 7
theorem dA {v:List Int} (h:bD v=true) {i:Nat} (hi:i<v.length):bet (v.getD i 0) 0 7=true:=by
 rw[List.getD_eq_getElem?_getD,List.getElem?_eq_getElem hi]
 exact List.all_eq_true.1 h _ (List.getElem_mem hi)
noncomputable abbrev f160:=Tryz.f255
noncomputable def AA (nl:Option Bool) (cap:Option Nat) (k:Int) (v:List Int) (i:Int) (n:Nat) (out:List Int):St:=
 aS f160.ntmps [(0,.c (.int .i64 k)),(5,.c (.sl 0 0 n 4 none)),(11,.c (.view nl (.ints .i64 v) v.length 1 cap)),(12,.c (.int .i64 v.length)),(13,.c (.int .i64 i))] [.live (.ints .i64 out)]
noncomputable def O6 (n:Nat) (out:List Int):St:=aS f160.ntmps [(5,.c (.sl 0 0 n 4 none))] [.live (.ints .i64 out)]
section
variable (nl : Option Bool) (cap : Option Nat) (k : Int) (v : List Int) (i : Int) (n : Nat) (out : List Int)
theorem W5:aK 0 (aE f160 0) (aG f160 0) (aM tt (aH T15) [] 0 100 (aC 0 (aB f160)) (AA nl cap k v i n out) [(0,true)])=
  some (.normal,(decide (i<v.length)&&(decide (0≤i)&&(decide (i<v.length)&&(decide (i.toNat<v.length)&&(bet k 1 2&&(bet (v.getD i.toNat 0) 0 7&&(decide (ix n 4 0=out.length)&&(decide (n+1≤274877906944)&&true)))))))),[],
   AA nl cap k v (IntKind.i64.wrap (i+1)) (n+1) (out++BU k (v.getD i.toNat 0))):=by kernel_rfl
theorem W6:aK 0 (aE f160 0) (aG f160 0) (aM tt (aH T15) [] 0 100 (aC 0 (aB f160)) (AA nl cap k v i n out) [(0,false)])=
  some (.exit 0,(!decide (i<v.length)&&true),[],O6 n out):=by kernel_rfl
end
theorem a9A (nl:Option Bool) (cap:Option Nat) (k:Int) (v:List Int) (hl:v.length≤274877906944) (hk:bet k 1 2=true) (hv:bD v=true):
  aP none Tryz.prog 0 (.block 0 (.loop (aC 0 (aB f160)))) (AA nl cap k v 0 0 []) fun e t=>e=.normal∧t=O6 v.length (gC k v):=by
 refine aP.roundsN (ro:=none) hT t15 bE (m:=0) (id:=0) (body:=aC 0 (aB f160)) (α:=Nat×List Int)
  (fun x=>x.1≤v.length∧x.2.length=x.1*4∧x.2++jB k v (v.length-x.1) x.1=gC k v) (fun x=>AA nl cap k v x.1 x.1 x.2) (fun x=>v.length-x.1) (aE f160 0) (aG f160 0)
  (fun _=>O6 v.length (gC k v)) (fun _=>[]) (fun _ _=>aL.nil) (fun x hx=> ?_) (0,[]) ⟨by simp,rfl,rfl⟩
 obtain⟨i,out⟩:=x
 obtain⟨h1,h2,h3⟩:=hx
 dsimp only at h1 h2 h3⊢
 by_cases hi:i<v.length
 ·have hkk:v.length-i=(v.length-(i+1))+1:=by omega
  rw[hkk]at h3
  simp only[jB]at h3
  refine⟨_,_,_,_,_,_,W5 nl cap k v i i out, ?_,by simp,.inl ⟨rfl,(i+1,out++BU k (v.getD i 0)),⟨by omega,by simp[h2,BU];omega,by simpa using h3⟩,by dsimp only;omega, ?_,rfl⟩⟩
  ·rw[Int.toNat_natCast,hk,dA hv hi,dI];simp;omega
  ·rw[aF (by omega) (by omega),Int.toNat_natCast];simp
 ·have hz:v.length-i=0:=by omega
  rw[hz]at h3
  simp only[jB,List.append_nil]at h3
  have e:i=v.length:=by omega
  exact⟨_,_,_,_,_,_,W6 nl cap k v i i out,by simp;omega,by simp,.inr ⟨rfl,by rw[←h3,e]⟩⟩
def DB:aO:=fun args h=>
 match args,h with
 |[.c (.int .i64 k),.c (.view nl (.ints .i64 v) len 1 cap)],[]=>
  some (.c (.sl 0 0 v.length 4 none),[.live (.ints .i64 (gC k v))],[decide (v.length≤274877906944),bet k 1 2,bD v])
 |_,_=>none
theorem aB2:aR Tryz.prog 255 DB:=by
 intro args h res h' o he ho
 unfold DB at he
 split at he
 ·rename_i k nl v len cap
  simp only[Option.some.injEq,Prod.mk.injEq]at he
  obtain⟨rfl,rfl,rfl⟩:=he
  simp only[List.mem_cons,List.not_mem_nil,or_false,forall_eq_or_imp,forall_eq,decide_eq_true_eq]at ho
  obtain⟨o1,o2,o3⟩:=ho
  refine bF.len ⟨f160,by kernel_rfl,by kernel_rfl,by kernel_rfl⟩ fun hlen=> ?_
  simp only[List.mem_cons,List.not_mem_nil,or_false,forall_eq_or_imp,forall_eq,AV.lenOk,aI.lenOk,Con.size,Nat.mul_one]at hlen
  obtain⟨-,rfl⟩:=hlen
  exact cA t15 (fn:=f160) (lc:=[(0,⟨aE f160 0,AA nl cap k v 0 0 [],.normal,O6 v.length (gC k v)⟩)]) (fuel:=100) (p:=[])
   (o:=⟨_,_,decide (0≤(v.length:Int))&&(decide ((v.length:Int)≤274877906944)&&true),[AA nl cap k v 0 0 []=AA nl cap k v 0 0 []]⟩)
   (by kernel_rfl) (by kernel_rfl) (by kernel_rfl) (by simp;omega) (by simp) (fun cc hc=>aL.cons (c:=cc) (by cases hc;kernel_rfl) (by cases hc;exact a9A nl cap k v o1 o2 o3) aL.nil)
 ·cases he
end
section
def BF (es len n:Nat):Nat:=match es with
 |1=>n
 |_=>len
theorem HR (es len n:Nat):BF es (BF es len n) n=BF es len n:=by
 unfold BF;split<;>simp
theorem GF {es len n:Nat} (h:len*es=n):BF es len n=len:=by
 unfold BF;split<;>omega
def aI.norm:aI→aI
 |.view _ c len es _=> .view none c (BF es len c.size) es none
 |x=>x
def bA:List aI→List aI
 |[]=>[]
 |x::r=>x.norm::bA r
def AV.norm:AV→AV
 |.c x=> .c x.norm
 |.agg cs=> .agg (bA cs)
 |x=>x
def b8:List AV→List AV
 |[]=>[]
 |x::r=>x.norm::b8 r
theorem aI.norm_norm (x:aI):x.norm.norm=x.norm:=by
 cases x<;>simp[aI.norm,HR]
theorem qQ: ∀l:List aI,bA (bA l)=bA l
 |[]=>rfl
 |x::r=>by simp[bA,aI.norm_norm,qQ r]
theorem AV.norm_norm (x:AV):x.norm.norm=x.norm:=by
 cases x<;>simp[AV.norm,aI.norm_norm,qQ]
theorem qP: ∀l:List AV,b8 (b8 l)=b8 l
 |[]=>rfl
 |x::r=>by simp[b8,AV.norm_norm,qP r]
theorem pA: ∀l:List aI,(bA l).length=l.length
 |[]=>rfl
 |x::r=>by simp[bA,pA r]
theorem p9: ∀l:List AV,(b8 l).length=l.length
 |[]=>rfl
 |x::r=>by simp[b8,p9 r]
theorem uC: ∀(l:List aI) (i:Nat),(bA l).getD i .any=(l.getD i .any).norm
 |[],i=>by simp[bA,aI.norm]
 |x::r,0=>by simp[bA]
 |x::r,i+1=>by simpa [bA]using uC r i
theorem uB: ∀(l:List AV) (i:Nat),(b8 l).getD i .any=(l.getD i .any).norm
 |[],i=>by simp[b8,AV.norm]
 |x::r,0=>by simp[b8]
 |x::r,i+1=>by simpa [b8]using uB r i
theorem CR0.norm {w:World} {L:Nat→Prop} {ρ:Rho} {c:aI} {v:Value} (h:CR0 w L ρ c v):CR0 w L ρ c.norm v:=by
 have h0:=h
 cases h with
 |view nl c len es cap b base k u hl hc hu hz hk hcap hnl=>
  simp only[aI.norm]
  rw[GF hz]
  exact .view none _ _ _ none b base k u hl hc hu hz hk (fun _ h=>by cases h) (fun _ h=>by cases h)
 |viewNone nl c es cap a k hz hcap hnl hk=>
  simp only[aI.norm]
  rw[GF (by rw[hz];simp)]
  exact .viewNone none c es none a k hz (fun _ h=>by cases h) (fun _ h=>by cases h) hk
 |_=>exact h0
theorem AVR.norm {X:Nat→Prop} {w:World} {ρ:Rho} {x:AV} {v:Value} (h:AVR X w ρ x v):AVR X w ρ x.norm v:=by
 cases h with
 |any=>exact .any v
 |c x v h=>exact .c _ _ (CR0.norm h)
 |agg cs vs hs h=>
  exact .agg _ _ (by rw[pA];exact hs) fun i hi=>by
   rw[pA]at hi;rw[uC];exact CR0.norm (h i hi)
 |tup l vs hs h=>exact .tup l vs hs h
def nm (G:aO):aO:=fun args h=>G (b8 args) h
def aT (P:Program) (f:FuncId) (G:aO):Prop:= ∀args h res h' o,b8 args=args→G args h=some (res,h',o)→(∀b∈o,b=true)→bF P f args h res h'
theorem aT.ok {P:Program} {f:FuncId} {G:aO} (hg:aT P f G):aR P f (nm G):=by
 intro args h res h' o he ho
 have hm:=hg (b8 args) h res h' o (qP args) he ho
 refine⟨hm.1,fun {X w0 ρ0} m vs hl hv=>hm.2 m vs (by rw[p9];exact hl) fun q hq=> ?_⟩
 rw[p9]at hq
 rw[uB]
 exact(hv q hq).norm
mutual
def vwA (get:Get):AV→Option (AV×List Bool)
 |.any=>some (.any,[])
 |.c x=>(froz get x).map fun(y,_,o)=>(.c y,o)
 |.agg cs=>(eN get cs).map fun(y,_,o)=>(.agg y,o)
 |.tup vs=>(vwT get vs).map fun(y,o)=>(.tup y,o)
def vwT (get:Get):List AV→Option (List AV×List Bool)
 |[]=>some ([],[])
 |x::r=>match vwA get x,vwT get r with
  |some (y,o),some (ys,o')=>some (y::ys,o++o')
  |_,_=>none
end
section
variable {X : Nat → Prop} {w0 w : World} {h : List aV} {ρ ρ0 : Rho} (m : Mem X w0 (b9 ρ0) h ρ w) (hun : ∀ id, ρ0 id = .unborn)
include m hun
theorem wN {x y:aI} {s:List (Nat×aV)} {o:List Bool} {v:Value} (hf:froz (Heap.get h) x=some (y,s,o)) (ho: ∀b∈o,b=true) (hx:CR X w ρ x v):CR X w ρ0 y v:=by
 have hnl: ∀b, ¬b9 ρ0 b:=fun b ⟨id,h⟩=>by rw[hun id]at h;cases h
 have mb2:cY w (fun b=>b9 ρ b∨X b) w (fun b=>b9 ρ0 b∨X b):=⟨fun _ _ _=>rfl,fun _ _=>rfl,Nat.le_refl _,fun b hb=> .inl (hb.elim (fun h=>absurd h (hnl b)) .inr)⟩
 unfold froz at hf
 split at hf
 ·rename_i id len es cap
  split at hf
  ·rename_i c hs
   cases hfr:c.free with
   |false=>rw[hfr]at hf;cases hf
   |true=>
    rw[hfr]at hf
    injection hf with hf;injection hf with e1 e2;injection e2 with e2 e3;subst e1 e2 e3
    have hz:len*es=c.size:=by simpa [dI]using ho _ (List.mem_singleton.2 rfl)
    rcases dQ m hs hx with⟨b,k,ty,n,hb,rfl,⟨cs,ty',hrow,hsz,hcs⟩,hsh,hn,hl',hcap⟩|⟨a,rfl,rfl,hcap⟩
    ·rw[Nat.zero_mul]
     refine .view none c len es cap b 0 k (fun q=>cs.getD q undef) (fun _ h=> ?_) (fun q hq=> ?_) (fun q hq=>((hcs q hq).free (eM hfr q)).mono mb2 (cC.noIds _)) hz hl' hcap (fun _ h=>by cases h)
     ·rcases h with h|h
      ·exact hnl b h
      ·exact m.notX hb h
     ·have hq':q<cs.size:=by omega
      simp[World.cell?,hrow,Array.getD,hq']
    ·exact .viewNone none c es cap a 0 (by omega) hcap (fun _ h=>by cases h) (fun _=>rfl)
  ·cases hf
 ·cases hf
 ·cases hf
 ·cases hf
 ·rename_i h1 h2 h3 h4
  injection hf with hf;injection hf with e1 e2;subst e1
  refine CR0.lift ((CR0.free hx ?_).mono mb2 (cC.refl _))
  cases x<;>first|rfl|skip
  ·exact absurd rfl (h3 _ _ _ _)
  ·exact absurd rfl (h2 _ _ _ _ _)
  ·rename_i f caps
   cases caps with
   |nil=>rfl
   |cons x r=>exact absurd rfl (h4 _ _ _)
theorem nD: ∀ {l l':List aI} {s:List (Nat×aV)} {o:List Bool} (f:Nat→Value),eN (Heap.get h) l=some (l',s,o)→(∀b∈o,b=true)→(∀i,i<l.length→CR X w ρ (l.getD i .any) (f i))→
  l'.length=l.length∧ ∀i,i<l.length→CR X w ρ0 (l'.getD i .any) (f i)
 |[],l',s,o,f,hf,_,_=>by
  injection hf with hf;injection hf with h1 h2;subst h1
  exact⟨rfl,fun q hq=>by simp at hq⟩
 |x::r,l',s,o,f,hf,ho,hx=>by
  simp only[eN]at hf
  split at hf
  ·rename_i y s1 o1 ys s2 o2 e1 e2
   injection hf with hf;injection hf with h1 h2;injection h2 with h2 h3;subst h1 h2 h3
   obtain⟨g1,g2⟩:=nD (fun q=>f (q+1)) e2 (fun b hb=>ho b (List.mem_append_right _ hb)) (fun q hq=>by simpa using hx (q+1) (by simpa using hq))
   refine⟨by simp[g1],fun q hq=> ?_⟩
   cases q with
   |zero=>simpa using wN m hun e1 (fun b hb=>ho b (List.mem_append_left _ hb)) (by simpa using hx 0 (by simp))
   |succ q=>simpa using g2 q (by simpa using hq)
  ·cases hf
mutual
theorem CM: ∀ {x y:AV} {o:List Bool} {v:Value},vwA (Heap.get h) x=some (y,o)→(∀b∈o,b=true)→AVR X w ρ x v→AVR X w ρ0 y v
 |.any,y,o,v,hf,ho,hx=>by
  simp only[vwA,Option.some.injEq,Prod.mk.injEq]at hf
  obtain⟨rfl,rfl⟩:=hf;exact .any v
 |.c x,y,o,v,hf,ho,hx=>by
  simp only[vwA]at hf
  obtain⟨⟨y',s,o'⟩,h1,h2⟩:=Option.map_eq_some_iff.1 hf
  simp only[Prod.mk.injEq]at h2
  obtain⟨rfl,rfl⟩:=h2
  cases hx with
  |c x v hx=>exact .c _ _ (wN m hun h1 ho hx)
 |.agg cs,y,o,v,hf,ho,hx=>by
  simp only[vwA]at hf
  obtain⟨⟨y',s,o'⟩,h1,h2⟩:=Option.map_eq_some_iff.1 hf
  simp only[Prod.mk.injEq]at h2
  obtain⟨rfl,rfl⟩:=h2
  cases hx with
  |agg cs vs hs hx=>
   obtain⟨g1,g2⟩:=nD m hun (fun i=>vs.getD i undef) h1 ho hx
   exact .agg _ _ (by rw[g1];exact hs) fun i hi=>g2 i (by rw[←g1];exact hi)
 |.tup l,y,o,v,hf,ho,hx=>by
  simp only[vwA]at hf
  obtain⟨⟨y',o'⟩,h1,h2⟩:=Option.map_eq_some_iff.1 hf
  simp only[Prod.mk.injEq]at h2
  obtain⟨rfl,rfl⟩:=h2
  cases hx with
  |tup l vs hs hx=>
   obtain⟨g1,g2⟩:=CN (fun i=>vs.getD i undef) h1 ho hx
   exact .tup _ _ (by rw[g1];exact hs) fun i hi=>g2 i (by rw[←g1];exact hi)
theorem CN: ∀ {l l':List AV} {o:List Bool} (f:Nat→Value),vwT (Heap.get h) l=some (l',o)→(∀b∈o,b=true)→(∀i,i<l.length→AVR X w ρ (l.getD i (.tup [])) (f i))→
  l'.length=l.length∧ ∀i,i<l.length→AVR X w ρ0 (l'.getD i (.tup [])) (f i)
 |[],l',o,f,hf,_,_=>by
  simp only[vwT,Option.some.injEq,Prod.mk.injEq]at hf
  obtain⟨rfl,rfl⟩:=hf
  exact⟨rfl,fun q hq=>by simp at hq⟩
 |x::r,l',o,f,hf,ho,hx=>by
  simp only[vwT]at hf
  split at hf
  ·rename_i y o1 ys o2 e1 e2
   injection hf with hf;injection hf with h1 h2;subst h1 h2
   obtain⟨g1,g2⟩:=CN (fun q=>f (q+1)) e2 (fun b hb=>ho b (List.mem_append_right _ hb)) (fun q hq=>by simpa using hx (q+1) (by simpa using hq))
   refine⟨by simp[g1],fun q hq=> ?_⟩
   cases q with
   |zero=>simpa using CM e1 (fun b hb=>ho b (List.mem_append_left _ hb)) (by simpa using hx 0 (by simp))
   |succ q=>simpa using g2 q (by simpa using hq)
  ·cases hf
end
end
theorem bF.views {P:Program} {f:FuncId} {args:List AV} {res res':AV} {h':List aV} {o:List Bool} (hm:bF P f args [] res h') (hv:vwA (Heap.get h') res=some (res',o)) (ho: ∀b∈o,b=true):
  bF P f args [] res' []:=by
 refine⟨hm.1,fun {X w0 ρ0} m vs hl hva=> ?_⟩
 refine Calls.mono (hm.2 m vs hl hva) ?_
 rintro e w' ⟨v,ρ',rfl,mb,im,m',hr⟩
 have hun: ∀id,ρ0 id=.unborn:=fun id=>by
  have hs:=m.slot id
  rw[Heap.get_ge (by simp)]at hs
  cases hx:ρ0 id<;>rw[hx]at hs<;>first|rfl|exact hs.elim
 have hr':=CM m' hun hv ho hr
 refine⟨v,ρ0,rfl,⟨mb.keep,mb.shape,mb.size,fun b hb=> .inl hb⟩,cC.refl _,⟨fun id=> ?_,(fun i j b hi _=>absurd (hun i) (by rw[hi];simp)),(fun id b hb=>absurd (hun id) (by rw[hb];simp)),m'.os,m'.tape,m'.output,m'.size,m'.keep,m'.foreign⟩,hr'⟩
 rw[Heap.get_ge (by simp),hun id];trivial
def dW (tt:Tab) (ct:CT) (fn:Func) (p:gJ):aO:=fun args h=>
 match aJ tt ct [] 1000 fn args h p with
 |some ⟨res,h',b,[]⟩=>some (res,h',[b])
 |_=>none
theorem cJ {P:Program} {tt:Tab} (hT:iK P tt) {ct:CT} (hct:bL P ct) (bE:P.follows .mixedOrders=true) {f:FuncId} {fn:Func} (p:gJ) (hf:P.funcs[f]? =some fn)
  (hnm:(fn.name== "runtime.NumGoroutine")=false):aR P f (dW tt ct fn p):=by
 intro args h res h' o he ho
 unfold dW at he
 split at he
 ·rename_i r hh b e
  injection he with he;injection he with e1 e2;injection e2 with e2 e3;subst e1 e2 e3
  exact qF hT hct bE (p:=p) hf hnm e (ho _ (List.mem_singleton.2 rfl)) (fun q hq=>by cases hq) (fun c _=>aL.nil)
 ·cases he
end
section
theorem aN (n m:Nat):BF 1 n m=m:=rfl
theorem fC.trans {m:Nat} {s t u:St} (a:fC m s t) (b:fC m t u):fC m s u:=fun X w0 ρ0 ρ ac w h0 r=>by
 obtain⟨ρ',r'⟩:=a h0 r
 exact b h0 r'
theorem aP.pre {ro:Option Nat} {P:Program} {m:Nat} {c:Code} {s t:St} {Q:Ex→St→Prop} (g:aP ro P m c t Q) (h:fC m s t):aP ro P m c s Q:=fun X w0 ρ0 ρ a w h0 r=>by
 obtain⟨ρ',r'⟩:=h h0 r
 exact g h0 r'
def lR (id es:Nat):List aI→Nat→List aI
 |[],_=>[]
 |x::r,0=>(match x with|.nils=> .sl id 0 0 es none|x=>x)::r
 |x::r,q+1=>x::lR id es r q
theorem wW (id es:Nat): ∀(l:List aI) (q:Nat),(lR id es l q).length=l.length
 |[],_=>rfl
 |x::r,0=>by simp[lR]
 |x::r,q+1=>by simp[lR,wW id es r q]
theorem wV (id es:Nat): ∀(l:List aI) (q i:Nat),(lR id es l q).getD i .any=l.getD i .any∨(l.getD i .any=.nils∧(lR id es l q).getD i .any=.sl id 0 0 es none)
 |[],_,i=> .inl rfl
 |x::r,0,0=>by
  cases x<;>first|exact .inl rfl|exact .inr ⟨rfl,rfl⟩
 |x::r,0,i+1=> .inl (by simp[lR])
 |x::r,q+1,0=> .inl (by simp[lR])
 |x::r,q+1,i+1=>by simpa [lR]using wV id es r q i
def nilH (r q es:Nat) (c0:Con) (s:St):St:=
 {s with heap:=(match Heap.get s.heap r with|.live (.cells cs)=>s.heap.set r (.live (.cells (lR s.heap.length es cs q)))|_=>s.heap)++[.live c0]}
section
variable {X : Nat → Prop} {w0 w : World} {ρ0 ρ : Rho}
theorem gQ (w:World) {ρ:Rho} {id:Nat} (hid:ρ id=.unborn):bN w ρ w (upd ρ id .nil):=by
 refine⟨fun _ _ _=>rfl,fun _ _=>rfl,Nat.le_refl _,fun j hj=> ?_,fun j hj=> ?_,fun j b hj=> ?_,fun j b hj=> ?_⟩
 ·rw[bK _ _ (fun e=>by rw[e,hid]at hj;cases hj)];exact hj
 ·rw[bK _ _ (fun e=>by rw[e,hid]at hj;cases hj)];exact .inl hj
 ·rw[bK _ _ (fun e=>by rw[e,hid]at hj;cases hj)];exact .inl hj
 ·by_cases e:j=id
  ·subst e;rw[aW]at hj;cases hj
  ·rw[bK _ _ e]at hj;exact .inl ⟨j,hj⟩
theorem iQ {id es:Nat} {v:Value} (h:CR X w ρ .nils v):CR X w (upd ρ id .nil) (.sl id 0 0 es none) v:=by
 cases h
 exact .slNone id 0 es none none (by rw[aW];simp) (fun _ h=>by cases h)
theorem Rel.nil {s:St} {a:Act} (r:Rel X w0 ρ0 s ρ a w) {c0:Con} (hc:c0.size=0) {T:List AV} {H:List aV} (hTl:T.length=s.tmps.length) (hHl:H.length=s.heap.length)
  (hT: ∀t,t<s.tmps.length→T.getD t (.tup [])=s.tmps.getD t (.tup [])∨ ∃es,s.tmps.getD t (.tup [])=.c .nils∧T.getD t (.tup [])=.c (.sl s.heap.length 0 0 es none))
  (hH: ∀id,Heap.get H id=Heap.get s.heap id∨ ∃cs cs',Heap.get s.heap id=.live (.cells cs)∧Heap.get H id=.live (.cells cs')∧cs'.length=cs.length∧
   ∀i,cs'.getD i .any=cs.getD i .any∨ ∃es,cs.getD i .any=.nils∧cs'.getD i .any=.sl s.heap.length 0 0 es none):
  Rel X w0 ρ0 ⟨T,H++[.live c0]⟩ (upd ρ s.heap.length .nil) a w:=by
 have hun:ρ s.heap.length=.unborn:=by
  have hs:=r.mem.slot s.heap.length
  rw[Heap.get_ge (Nat.le_refl _)]at hs
  cases hx:ρ s.heap.length<;>rw[hx]at hs<;>first|rfl|exact hs.elim
 have mo:=gQ w hun
 refine⟨by rw[hTl];exact r.size,fun t ht=> ?_,⟨fun id=> ?_,fun i j b hi hj=> ?_,fun id b hb=> ?_,r.mem.os,r.mem.tape,r.mem.output,r.mem.size,r.mem.keep,r.mem.foreign⟩,r.defers,
  r.mono.trans mo.toB,r.ids.trans mo.ids⟩
 ·dsimp only at ht⊢
  rw[hTl]at ht
  rcases hT t ht with e|⟨es,e1,e2⟩
  ·rw[e];exact(r.tmps t ht).mono mo
  ·have h:=r.tmps t ht
   rw[e1]at h
   rw[e2]
   cases h with
   |c x v h=>exact .c _ _ (iQ h)
 ·by_cases e:id=s.heap.length
  ·subst e
   have:Heap.get (H++[.live c0]) s.heap.length=.live c0:=by
    unfold Heap.get
    rw[List.getD_eq_getElem?_getD,List.getElem?_append_right (by omega),hHl];simp
   rw[this,aW];exact hc
  ·have hg:Heap.get (H++[.live c0]) id=Heap.get H id:=by
    unfold Heap.get
    rw[List.getD_eq_getElem?_getD,List.getD_eq_getElem?_getD,List.getElem?_append]
    split
    ·rfl
    ·rw[List.getElem?_eq_none (l:=H) (by omega),List.getElem?_eq_none (by simp;omega)]
   rw[hg,bK _ _ e]
   have hs:=r.mem.slot id
   rcases hH id with e1|⟨cs,cs',e1,e2,e3,e4⟩
   ·rw[e1];exact hs.mono mo fun _ _=>rfl
   ·rw[e1]at hs
    rw[e2]
    cases hx:ρ id with
    |unborn=>rw[hx]at hs;exact hs.elim
    |dead=>rw[hx]at hs;exact hs.elim
    |nil=>rw[hx]at hs;simp only[eO,Con.size]at hs⊢;omega
    |row b=>
     rw[hx]at hs
     obtain⟨vs,ty,h1,h2,h3⟩:=hs
     refine⟨vs,ty,h1,by simp only[Con.size]at h2⊢;omega,fun q hq=> ?_⟩
     have h:=h3 q (by simp only[Con.size]at hq⊢;omega)
     simp only[Con.cell]at h⊢
     rcases e4 q with e5|⟨es,e5,e6⟩
     ·rw[e5];exact h.mono mo
     ·rw[e5]at h;rw[e6];exact iQ h
 ·by_cases e:i=s.heap.length
  ·subst e;rw[aW]at hi;cases hi
  ·by_cases e':j=s.heap.length
   ·subst e';rw[aW]at hj;cases hj
   ·rw[bK _ _ e]at hi;rw[bK _ _ e']at hj
    exact r.mem.inj i j b hi hj
 ·by_cases e:id=s.heap.length
  ·subst e;rw[aW]at hb;cases hb
  ·rw[bK _ _ e]at hb;exact r.mem.own id b hb
theorem fC.nilH (m r q es:Nat) (c0:Con) (hc:c0.size=0) (s:St):fC m s (Am.nilH r q es c0 s):=fun X w0 ρ0 ρ a w h0 rl=>by
 refine⟨_,Rel.nil rl hc rfl ?_ (fun t ht=> .inl rfl) (fun id=> ?_)⟩
 ·split<;>simp
 ·split
  ·rename_i cs hg
   rw[Heap.get_set]
   by_cases e:id=r∧r<s.heap.length
   ·rw[if_pos e]
    obtain⟨rfl,hlt⟩:=e
    refine .inr ⟨cs,_,hg,rfl,wW _ _ _ _,fun i=> ?_⟩
    rcases wV s.heap.length es cs q i with h|⟨h1,h2⟩
    ·exact .inl h
    ·exact .inr ⟨es,h1,h2⟩
   ·rw[if_neg e];exact .inl rfl
  ·exact .inl rfl
end
end
section
def T16:List aZ:=[⟨255,[],DB⟩]++T15
theorem e16:aA Tryz.prog T16:=by
 refine aA.append ?_ e15
 intro e he
 simp only[List.mem_cons,List.not_mem_nil,or_false]at he
 subst he;exact aB2
theorem t16:bL Tryz.prog (aH T16):=aQ e16
def ldK (xs:List Int) (i:Nat):Int:=eE (fun x=>x !=0) [xs.getD (i*12) 0,xs.getD (i*12+1) 0,xs.getD (i*12+2) 0,xs.getD (i*12+3) 0]
def cK (xs:List Int) (i:Nat) (k:List Int):Int:=[k.getD 0 0,k.getD 1 0,k.getD 2 0,k.getD 3 0,k.getD 4 0,k.getD 5 0,k.getD 6 0,k.getD 7 0,k.getD 8 0,k.getD 9 0,k.getD 10 0,k.getD 11 0].getD (ldK xs i).toNat 0
def wT (xs:List Int) (i:Nat) (k:List Int) (j:Nat):Int:=(k.getD j 0+xs.getD (i*12+j) 0*cK xs i k%31*30%31)%31
def lQ (xs:List Int) (i:Nat) (k:List Int) (j:Nat):Int:=(k.getD j 0-xs.getD (i*12+j) 0*cK xs i k%31)%31
def BC (xs:List Int) (i:Nat) (k:List Int):List Int:=[wT xs i k 0,wT xs i k 1,wT xs i k 2,wT xs i k 3,lQ xs i k 4,lQ xs i k 5,lQ xs i k 6,lQ xs i k 7,lQ xs i k 8,lQ xs i k 9,lQ xs i k 10,lQ xs i k 11]
def p6 (xs:List Int):Nat→Nat→List Int→List Int
 |0,_,k=>k
 |m+1,i,k=>p6 xs m (i+1) (BC xs i k)
def wU (xs:List Int) (n:Nat) (k:List Int):List Int:=p6 xs n 0 k
noncomputable abbrev f181:=Tryz.f282
noncomputable def DO (n m:Nat) (xs ps:List Int) (i:Int) (k:List Int):St:=
 aS f181.ntmps [(3,.c (.ptr 3 0 0 0)),(4,.c (.ptr 4 0 0 0)),(12,.c (.sl 1 0 n 12 none)),(13,.c (.int .i64 n)),(14,.c (.int .i64 i))]
  [.live (.cells [.sl 1 0 n 12 none,.sl 2 0 m 1 none]),.live (.ints .i64 xs),.live (.ints .i64 ps),.live (.ints .i64 [k.getD 0 0,k.getD 1 0,k.getD 2 0,k.getD 3 0,k.getD 4 0,k.getD 5 0,k.getD 6 0,k.getD 7 0,k.getD 8 0,k.getD 9 0,k.getD 10 0,k.getD 11 0]),.live (.ints .i64 [0,0,0,0,0,0,0,0,0,0,0,0])]
noncomputable def OA (n m:Nat) (xs ps:List Int) (k:List Int):St:=
 aS f181.ntmps [(3,.c (.ptr 3 0 0 0)),(4,.c (.ptr 4 0 0 0))]
  [.live (.cells [.sl 1 0 n 12 none,.sl 2 0 m 1 none]),.live (.ints .i64 xs),.live (.ints .i64 ps),.live (.ints .i64 [k.getD 0 0,k.getD 1 0,k.getD 2 0,k.getD 3 0,k.getD 4 0,k.getD 5 0,k.getD 6 0,k.getD 7 0,k.getD 8 0,k.getD 9 0,k.getD 10 0,k.getD 11 0]),.live (.ints .i64 [0,0,0,0,0,0,0,0,0,0,0,0])]
def GL (n m:Nat) (xs ps:List Int) (i:Int) (k:List Int):=bt5 (cK xs i.toNat k) (aM tt (aH T16) [] 3 100 (aC 0 (aB f181)) (DO n m xs ps i k)) (aK 3 (aE f181 0) (aG f181 0)) (i.toNat*12+10) (i.toNat*12+11) (P:=fun q0 q1 q2 q3 q4=>q2 (q1 [(0,true)])=
  some (.normal,(decide (i< ↑n)&&(decide (0≤i)&&(decide (i< ↑n)&&(decide (i.toNat*12+12≤xs.length)&&(decide (0≤ldK xs i.toNat)&&(decide (ldK xs i.toNat<4)&&(decide ((ldK xs i.toNat).toNat<[k.getD 0 0,k.getD 1 0,k.getD 2 0,k.getD 3 0,k.getD 4 0,k.getD 5 0,k.getD 6 0,k.getD 7 0,k.getD 8 0,k.getD 9 0,k.getD 10 0,k.getD 11 0].length)&&(fok (xs.getD (i.toNat*12) 0)&&(fok q0&&(fok (xs.getD (i.toNat*12+1) 0)&&(fok q0&&(fok (xs.getD (i.toNat*12+2) 0)&&(fok q0&&(fok (xs.getD (i.toNat*12+3) 0)&&(fok q0&&(fok (k.getD 0 0)&&(fok (xs.getD (i.toNat*12) 0*cK xs i.toNat k%31)&&(fok (k.getD 1 0)&&(fok (xs.getD (i.toNat*12+1) 0*cK xs i.toNat k%31)&&(fok (k.getD 2 0)&&(fok (xs.getD (i.toNat*12+2) 0*cK xs i.toNat k%31)&&(fok (k.getD 3 0)&&(fok (xs.getD (i.toNat*12+3) 0*cK xs i.toNat k%31)&&(fok (xs.getD (i.toNat*12+4) 0)&&(fok q0&&(fok (k.getD 4 0)&&(fok (xs.getD (i.toNat*12+4) 0*cK xs i.toNat k%31)&&(fok (xs.getD (i.toNat*12+5) 0)&&(fok q0&&(fok (k.getD 5 0)&&(fok (xs.getD (i.toNat*12+5) 0*cK xs i.toNat k%31)&&(fok (xs.getD (i.toNat*12+6) 0)&&(fok q0&&(fok (k.getD 6 0)&&(fok (xs.getD (i.toNat*12+6) 0*cK xs i.toNat k%31)&&(fok (xs.getD (i.toNat*12+7) 0)&&(fok q0&&(fok (k.getD 7 0)&&(fok (xs.getD (i.toNat*12+7) 0*cK xs i.toNat k%31)&&(fok (xs.getD (i.toNat*12+8) 0)&&(fok q0&&(fok (k.getD 8 0)&&(fok (xs.getD (i.toNat*12+8) 0*cK xs i.toNat k%31)&&(fok (xs.getD (i.toNat*12+9) 0)&&(fok q0&&(fok (k.getD 9 0)&&(fok (xs.getD (i.toNat*12+9) 0*cK xs i.toNat k%31)&&(fok (xs.getD q3 0)&&(fok q0&&(fok (k.getD 10 0)&&(fok (xs.getD q3 0*cK xs i.toNat k%31)&&(fok (xs.getD q4 0)&&(fok q0&&(fok (k.getD 11 0)&&((fok (xs.getD q4 0*cK xs i.toNat k%31))&&true))))))))))))))))))))))))))))))))))))))))))))))))))))))),[],DO n m xs ps (IntKind.i64.wrap (i+1)) (BC xs i.toNat k))∧q2 (q1 [(0,false)])=
  some (.exit 0,((!decide (i< ↑n))&&true),[],OA n m xs ps k)) ⟨by kernel_rfl,by kernel_rfl⟩
def WE (n m:Nat) (xs ps:List Int) (i:Int) (k:List Int):=(GL n m xs ps i k).1
def WF (n m:Nat) (xs ps:List Int) (i:Int) (k:List Int):=(GL n m xs ps i k).2
def tY (xs:List Int) (n:Nat):Bool:=cN (fun i=>bet (ldK xs i) 0 3) n
theorem a9E (n m:Nat) (xs ps:List Int) (k:List Int) (hn:n≤274877906944) (hx:xs.length=n*12) (hf:aD xs=true) (hk:aD k=true) (hl:tY xs n=true):
  aP none Tryz.prog 3 (.block 0 (.loop (aC 0 (aB f181)))) (DO n m xs ps 0 k) fun e t=>e=.normal∧t=OA n m xs ps (wU xs n k):=by
 refine aP.roundsN (ro:=none) hT t16 bE (m:=3) (id:=0) (body:=aC 0 (aB f181)) (α:=Nat×List Int)
  (fun x=>x.1≤n∧aD x.2=true∧p6 xs (n-x.1) x.1 x.2=wU xs n k) (fun x=>DO n m xs ps x.1 x.2) (fun x=>n-x.1) (aE f181 0) (aG f181 0)
  (fun _=>OA n m xs ps (wU xs n k)) (fun _=>[]) (fun _ _=>aL.nil) (fun x hx=> ?_) (0,k) ⟨by simp,hk,rfl⟩
 obtain⟨i,k⟩:=x
 obtain⟨h1,h2,h3⟩:=hx
 dsimp only at h1 h2 h3⊢
 by_cases hi:i<n
 ·have hkk:n-i=(n-(i+1))+1:=by omega
  rw[hkk]at h3
  simp only[p6]at h3
  have hld:bet (ldK xs i) 0 3=true:=aX hl i hi
  have hld':=hld
  simp only[bet,Bool.and_eq_true,rpS,decide_eq_true_eq]at hld'
  have hc:fok (cK xs i k)=true:=aU (v:=[k.getD 0 0,k.getD 1 0,k.getD 2 0,k.getD 3 0,k.getD 4 0,k.getD 5 0,k.getD 6 0,k.getD 7 0,k.getD 8 0,k.getD 9 0,k.getD 10 0,k.getD 11 0]) (by simp[aD,aU h2,-List.getD_eq_getElem?_getD]) _
  refine⟨_,_,_,_,_,_,WE n m xs ps i k, ?_,by simp,.inl ⟨rfl,(i+1,BC xs i k),⟨by omega, ?_,h3⟩,by dsimp only;omega, ?_,rfl⟩⟩
  ·rw[Int.toNat_natCast]
   simp only[aU hf,aU h2,cB,hc,Bool.true_and,rpS,Bool.and_true,Bool.and_eq_true,decide_eq_true_eq,List.length_cons,List.length_nil]
   omega
  ·simp only[aD,BC,wT,lQ,List.all_cons,List.all_nil,cB,Bool.and_self]
  ·rw[aF (by omega) (by omega),Int.toNat_natCast];rfl
 ·have hz:n-i=0:=by omega
  rw[hz]at h3
  simp only[p6]at h3
  exact⟨_,_,_,_,_,_,WF n m xs ps i k,by simp;omega,by simp,.inr ⟨rfl,by rw[h3]⟩⟩
def TU (k:List Int):List aI:=[.int .i64 (k.getD 0 0),.int .i64 (k.getD 1 0),.int .i64 (k.getD 2 0),.int .i64 (k.getD 3 0),.int .i64 (k.getD 4 0),.int .i64 (k.getD 5 0),.int .i64 (k.getD 6 0),.int .i64 (k.getD 7 0),.int .i64 (k.getD 8 0),.int .i64 (k.getD 9 0),.int .i64 (k.getD 10 0),.int .i64 (k.getD 11 0)]
def D2:aO:=fun args h=>
 match args,h with
 |[.c (.ptr 0 0 0 0),.agg [.int .i64 k0,.int .i64 k1,.int .i64 k2,.int .i64 k3,.int .i64 b0,.int .i64 b1,.int .i64 b2,.int .i64 b3,.int .i64 b4,.int .i64 b5,.int .i64 b6,.int .i64 b7]],[.live (.cells [.sl 1 0 n 12 none,.sl 2 0 m 1 none]),.live (.ints .i64 xs),.live (.ints .i64 ps)]=>
  some (.agg (TU (wU xs n [k0,k1,k2,k3,b0,b1,b2,b3,b4,b5,b6,b7])),[.live (.cells [.sl 1 0 n 12 none,.sl 2 0 m 1 none]),.live (.ints .i64 xs),.live (.ints .i64 ps)],[decide (n≤274877906944),decide (xs.length=n*12),aD xs,aD [k0,k1,k2,k3,b0,b1,b2,b3,b4,b5,b6,b7],tY xs n])
 |_,_=>none
theorem aBD:aR Tryz.prog 282 D2:=by
 intro args h res h' o he ho
 unfold D2 at he
 split at he
 case h_2=>cases he
 rename_i k0 k1 k2 k3 b0 b1 b2 b3 b4 b5 b6 b7 n m xs ps
 simp only[Option.some.injEq,Prod.mk.injEq]at he
 obtain⟨rfl,rfl,rfl⟩:=he
 simp only[List.mem_cons,List.not_mem_nil,or_false,forall_eq_or_imp,forall_eq,decide_eq_true_eq]at ho
 obtain⟨o1,o2,o3,o4,o5⟩:=ho
 exact cA t16 (fn:=f181) (lc:=[(0,⟨aE f181 0,DO n m xs ps 0 [k0,k1,k2,k3,b0,b1,b2,b3,b4,b5,b6,b7],.normal,OA n m xs ps (wU xs n [k0,k1,k2,k3,b0,b1,b2,b3,b4,b5,b6,b7])⟩)]) (fuel:=100) (p:=[])
  (o:=⟨_,_,true,[DO n m xs ps 0 [k0,k1,k2,k3,b0,b1,b2,b3,b4,b5,b6,b7]=DO n m xs ps 0 [k0,k1,k2,k3,b0,b1,b2,b3,b4,b5,b6,b7]]⟩)
  (by kernel_rfl) (by kernel_rfl) (by kernel_rfl) rfl (by simp) (fun cc hc=>aL.cons (c:=cc) (by cases hc;kernel_rfl) (by cases hc;exact a9E n m xs ps _ o1 o2 o3 o4 o5) aL.nil)
end
section
def T17:List aZ:=[⟨282,[0],D2⟩]++T16
theorem e17:aA Tryz.prog T17:=by
 refine aA.append ?_ e16
 intro e he
 simp only[List.mem_cons,List.not_mem_nil,or_false]at he
 subst he;exact aBD
theorem t17:bL Tryz.prog (aH T17):=aQ e17
noncomputable abbrev f161:=Tryz.f256
def M4 (xs:List Int) (i:Nat):List Int:=[xs.getD (i*4+0) 0,xs.getD (i*4+1) 0,xs.getD (i*4+2) 0,xs.getD (i*4+3) 0,if i=0 then 1 else 0,if i=1 then 1 else 0,if i=2 then 1 else 0,if i=3 then 1 else 0,if i=4 then 1 else 0,if i=5 then 1 else 0,if i=6 then 1 else 0,if i=7 then 1 else 0]
def KK (xs ys:List Int) (r i:Nat):List Int:=wU ys r (M4 xs i)
def ld4 (k:List Int):Int:=eE (fun x=>x !=0) [k.getD 0 0,k.getD 1 0,k.getD 2 0,k.getD 3 0]
def at4 (k:List Int):Int:=[k.getD 0 0,k.getD 1 0,k.getD 2 0,k.getD 3 0,k.getD 4 0,k.getD 5 0,k.getD 6 0,k.getD 7 0,k.getD 8 0,k.getD 9 0,k.getD 10 0,k.getD 11 0].getD (ld4 k).toNat 0
def cI (k:List Int):Int:=inv (at4 k)
def nP (k:List Int):List Int:=[k.getD 0 0*cI k%31,k.getD 1 0*cI k%31,k.getD 2 0*cI k%31,k.getD 3 0*cI k%31,k.getD 4 0*cI k%31,k.getD 5 0*cI k%31,k.getD 6 0*cI k%31,k.getD 7 0*cI k%31,k.getD 8 0*cI k%31,k.getD 9 0*cI k%31,k.getD 10 0*cI k%31,k.getD 11 0*cI k%31]
def fT (xs:List Int):Nat→Nat→List Int×List Int→List Int×List Int
 |0,_,s=>s
 |f+1,i,s=>fT xs f (i+1) (bif decide (ld4 (KK xs s.1 s.2.length i)<0)then s else(s.1++nP (KK xs s.1 s.2.length i),s.2++[(i:Int)]))
def eT (xs:List Int) (n:Nat):List Int×List Int:=fT xs n 0 ([],[])
noncomputable def DN (n:Nat) (xs:List Int) (r m:Nat) (ys ps:List Int) (i:Int):St:=
 aS f161.ntmps [(3,.c (.ptr 0 0 0 0)),(12,.c (.view none (.ints .i64 xs) n 4 none)),(13,.c (.int .i64 n)),(14,.c (.int .i64 i))]
  [.live (.cells [.sl 1 0 r 12 none,.sl 2 0 m 1 none]),.live (.ints .i64 ys),.live (.ints .i64 ps)]
noncomputable def O7 (r m:Nat) (ys ps:List Int):St:=
 aS f161.ntmps [(3,.c (.ptr 0 0 0 0))] [.live (.cells [.sl 1 0 r 12 none,.sl 2 0 m 1 none]),.live (.ints .i64 ys),.live (.ints .i64 ps)]
section
variable (n : Nat) (xs : List Int) (r m : Nat) (ys ps : List Int)
theorem W7 (i:Nat) (hi:i<8):aK 0 (aE f161 0) (aG f161 0) (aM tt (aH T17) [] 0 100 (aC 0 (aB f161)) (DN n xs r m ys ps i) [(0,true),(0,true)])=
  some (.normal,(rp2 (decide ((i:Int)<n)) (decide (i*4+4≤xs.length)&&(decide (r≤274877906944)&&(decide (ys.length=r*12)&&(aD ys&&(aD (M4 xs i)&&(tY ys r&&(decide (ld4 (KK xs ys r i)<0)&&true)))))))),[],DN n xs r m ys ps (i+1:Nat)):=
 match i,hi with
 |0,_=>by kernel_rfl
 |1,_=>by kernel_rfl
 |2,_=>by kernel_rfl
 |3,_=>by kernel_rfl
 |4,_=>by kernel_rfl
 |5,_=>by kernel_rfl
 |6,_=>by kernel_rfl
 |7,_=>by kernel_rfl
theorem W8 (i:Nat) (hi:i<8):aK 0 (aE f161 0) (aG f161 0) (aM tt (aH T17) [] 0 100 (aC 0 (aB f161)) (DN n xs r m ys ps i) [(0,true),(0,false)])=
  some (.normal,(rp2 (decide ((i:Int)<n)) (decide (i*4+4≤xs.length)&&(decide (r≤274877906944)&&(decide (ys.length=r*12)&&(aD ys&&(aD (M4 xs i)&&(tY ys r&&(!decide (ld4 (KK xs ys r i)<0)&&(decide (0≤ld4 (KK xs ys r i))&&(decide (ld4 (KK xs ys r i)<4)&&(decide ((ld4 (KK xs ys r i)).toNat<12)&&(fok (at4 (KK xs ys r i))&&(fok ((KK xs ys r i).getD 0 0)&&(fok (cI (KK xs ys r i))&&(fok ((KK xs ys r i).getD 1 0)&&(fok (cI (KK xs ys r i))&&(fok ((KK xs ys r i).getD 2 0)&&(fok (cI (KK xs ys r i))&&(fok ((KK xs ys r i).getD 3 0)&&(fok (cI (KK xs ys r i))&&(fok ((KK xs ys r i).getD 4 0)&&(fok (cI (KK xs ys r i))&&(fok ((KK xs ys r i).getD 5 0)&&(fok (cI (KK xs ys r i))&&(fok ((KK xs ys r i).getD 6 0)&&(fok (cI (KK xs ys r i))&&(fok ((KK xs ys r i).getD 7 0)&&(fok (cI (KK xs ys r i))&&(fok ((KK xs ys r i).getD 8 0)&&(fok (cI (KK xs ys r i))&&(fok ((KK xs ys r i).getD 9 0)&&(fok (cI (KK xs ys r i))&&(fok ((KK xs ys r i).getD 10 0)&&(fok (cI (KK xs ys r i))&&(fok ((KK xs ys r i).getD 11 0)&&(fok (cI (KK xs ys r i))&&(decide (r*12=ys.length)&&(decide (r+1≤274877906944)&&(decide (m=ps.length)&&(decide (m+1≤274877906944)&&true)))))))))))))))))))))))))))))))))))))))),[],DN n xs (r+1) (m+1) (ys++nP (KK xs ys r i)) (ps++[(i:Int)]) (i+1:Nat)):=
 match i,hi with
 |0,_=>by kernel_rfl
 |1,_=>by kernel_rfl
 |2,_=>by kernel_rfl
 |3,_=>by kernel_rfl
 |4,_=>by kernel_rfl
 |5,_=>by kernel_rfl
 |6,_=>by kernel_rfl
 |7,_=>by kernel_rfl
theorem W9 (i:Int):aK 0 (aE f161 0) (aG f161 0) (aM tt (aH T17) [] 0 100 (aC 0 (aB f161)) (DN n xs r m ys ps i) [(0,false)])=
  some (.exit 0,(!decide (i<n)&&true),[],O7 r m ys ps):=by kernel_rfl
end
theorem a0B (a b c d:Int):eE (fun x=>x !=0) [a,b,c,d]=if a≠0 then 0 else if b≠0 then 1 else if c≠0 then 2 else if d≠0 then 3 else -1:=by
 have e: ∀x:Int,x=0∨(x≠0∧(x !=0)=true):=fun x=>by
  by_cases h:x=0
  ·exact .inl h
  ·exact .inr ⟨h,bne_iff_ne.2 h⟩
 unfold eE eW
 rcases e a with ha|⟨ha,ha'⟩
 ·subst ha
  rcases e b with hb|⟨hb,hb'⟩
  ·subst hb
   rcases e c with hc|⟨hc,hc'⟩
   ·subst hc
    rcases e d with hd|⟨hd,hd'⟩
    ·subst hd;rfl
    ·simp[dO,hd,hd',-bne_iff_ne]
   ·simp[dO,hc,hc',-bne_iff_ne]
  ·simp[dO,hb,hb',-bne_iff_ne]
 ·simp[dO,ha,ha',-bne_iff_ne]
theorem P6 {a b c d:Int} (h:a≠0∨b≠0∨c≠0∨d≠0):bet (eE (fun x=>x !=0) [a,b,c,d]) 0 3=true:=by
 rw[a0B]
 by_cases ha:a=0<;>by_cases hb:b=0<;>by_cases hc:c=0<;>by_cases hd:d=0<;>simp[ha,hb,hc,hd,bet]at h⊢
theorem wR {k:List Int} (h:0≤ld4 k):(ld4 k=0∧k.getD 0 0≠0)∨(ld4 k=1∧k.getD 1 0≠0)∨(ld4 k=2∧k.getD 2 0≠0)∨(ld4 k=3∧k.getD 3 0≠0):=by
 unfold ld4 at h⊢
 rw[a0B]at h⊢
 generalize k.getD 0 0=a at*
 generalize k.getD 1 0=b at*
 generalize k.getD 2 0=c at*
 generalize k.getD 3 0=d at*
 by_cases ha:a=0<;>by_cases hb:b=0<;>by_cases hc:c=0<;>by_cases hd:d=0<;>simp[ha,hb,hc,hd]at h⊢
theorem tZ (xs:List Int): ∀(m i:Nat) (k:List Int),aD k=true→aD (p6 xs m i k)=true
 |0,_,_,h=>h
 |m+1,i,k,h=>tZ xs m (i+1) _ (by simp only[aD,BC,wT,lQ,List.all_cons,List.all_nil,cB,Bool.and_self])
theorem tR {xs:List Int} (h:aD xs=true) (i:Nat):aD (M4 xs i)=true:=by
 have e: ∀j,fok (if i=j then 1 else 0)=true:=fun j=>by split<;>rfl
 simp only[aD,M4,List.all_cons,List.all_nil,aU h,e,Bool.and_self]
theorem TB {xs:List Int} (h:aD xs=true) (ys:List Int) (r i:Nat):aD (KK xs ys r i)=true:=tZ ys r 0 _ (tR h i)
theorem rQ (n:Int):fok (inv n)=true:=by
 unfold inv
 exact aU (v:=[0,1,16,21,8,25,26,9,4,7,28,17,13,12,20,29,2,11,19,18,14,3,24,27,22,5,6,23,10,15,30]) rfl _
theorem nF {n:Int} (h:fok n=true) (h0:n≠0):n*inv n%31=1:=by
 have key:=PJ (q:=fun n=>(decide (n≠0)→n*inv n%31=1)) (fun k hk=>by
  have all:cN (fun k=> !decide ((k:Int)≠0)||decide ((k:Int)*inv k%31=1)) 31=true:=by kernel_rfl
  have:=aX all k hk
  simp only[Bool.or_eq_true,Bool.not_eq_true',decide_eq_false_iff_not,decide_eq_true_eq]at this
  intro h
  rcases this with h'|h'
  ·simp at h;omega
  ·exact h') h
 exact key (by simpa using h0)
theorem OM {k:List Int} (h:aD k=true):fok (at4 k)=true:=by
 unfold at4
 exact aU (v:=[k.getD 0 0,k.getD 1 0,k.getD 2 0,k.getD 3 0,k.getD 4 0,k.getD 5 0,k.getD 6 0,k.getD 7 0,k.getD 8 0,k.getD 9 0,k.getD 10 0,k.getD 11 0])
  (by simp only[aD,List.all_cons,List.all_nil,aU h,Bool.and_self]) _
theorem BK (k:List Int):aD (nP k)=true:=by simp only[aD,nP,List.all_cons,List.all_nil,cB,Bool.and_self]
theorem BL (k:List Int):(nP k).length=12:=rfl
theorem HT {k:List Int} (hk:aD k=true) (h:0≤ld4 k):bet (eE (fun x=>x !=0) [(nP k).getD 0 0,(nP k).getD 1 0,(nP k).getD 2 0,(nP k).getD 3 0]) 0 3=true:=by
 refine P6 ?_
 have e: ∀j,j<12→(nP k).getD j 0=k.getD j 0*cI k%31:=fun j hj=>by
  match j,hj with
  |0,_|1,_|2,_|3,_|4,_|5,_|6,_|7,_|8,_|9,_|10,_|11,_=>rfl
 rw[e 0 (by omega),e 1 (by omega),e 2 (by omega),e 3 (by omega)]
 rcases wR h with⟨h1,h2⟩|⟨h1,h2⟩|⟨h1,h2⟩|⟨h1,h2⟩
 ·have hc:cI k=inv (k.getD 0 0):=by unfold cI at4;rw[h1];rfl
  exact .inl (by rw[hc,nF (aU hk _) h2];decide)
 ·have hc:cI k=inv (k.getD 1 0):=by unfold cI at4;rw[h1];rfl
  exact .inr (.inl (by rw[hc,nF (aU hk _) h2];decide))
 ·have hc:cI k=inv (k.getD 2 0):=by unfold cI at4;rw[h1];rfl
  exact .inr (.inr (.inl (by rw[hc,nF (aU hk _) h2];decide)))
 ·have hc:cI k=inv (k.getD 3 0):=by unfold cI at4;rw[h1];rfl
  exact .inr (.inr (.inr (by rw[hc,nF (aU hk _) h2];decide)))
theorem dT (xs ys:List Int) (i:Nat):(xs++ys).getD i 0=if i<xs.length then xs.getD i 0 else ys.getD (i-xs.length) 0:=by
 rw[List.getD_eq_getElem?_getD,List.getElem?_append]
 split<;>rw[List.getD_eq_getElem?_getD]
theorem mX {f:Nat→Bool}: ∀ {n:Nat},(∀k,k<n→f k=true)→cN f n=true
 |0,_=>rfl
 |n+1,h=>by simp only[cN,Bool.and_eq_true,rpS];exact⟨h n (by omega),mX fun k hk=>h k (by omega)⟩
theorem eC {xs ys:List Int} (h:aD xs=true) (h':aD ys=true):aD (xs++ys)=true:=by
 simp only[aD,List.all_append,Bool.and_eq_true,rpS]at h h'⊢;exact⟨h,h'⟩
theorem HO {ys:List Int} {r:Nat} (hl:ys.length=r*12) (h:tY ys r=true) {k:List Int} (hk:aD k=true) (h0:0≤ld4 k):tY (ys++nP k) (r+1)=true:=by
 refine mX fun i hi=> ?_
 by_cases e:i=r
 ·subst e
  have:=HT hk h0
  unfold ldK
  rw[dT,dT,dT,dT,if_neg (by omega),if_neg (by omega),if_neg (by omega),if_neg (by omega)]
  rw[hl,Nat.sub_self,Nat.add_sub_cancel_left,Nat.add_sub_cancel_left,Nat.add_sub_cancel_left]
  exact this
 ·have:=aX h i (by omega)
  unfold ldK at this⊢
  rw[dT,dT,dT,dT,if_pos (by omega),if_pos (by omega),if_pos (by omega),if_pos (by omega)]
  exact this
theorem a9B (n:Nat) (xs:List Int) (hn:n≤8) (hx:xs.length=n*4) (hf:aD xs=true):
  aP none Tryz.prog 0 (.block 0 (.loop (aC 0 (aB f161)))) (DN n xs 0 0 [] [] 0) fun e t=>e=.normal∧t=O7 (eT xs n).2.length (eT xs n).2.length (eT xs n).1 (eT xs n).2:=by
 refine aP.roundsN (ro:=none) hT t17 bE (m:=0) (id:=0) (body:=aC 0 (aB f161)) (α:=Nat×List Int×List Int)
  (fun x=>x.1≤n∧x.2.2.length≤x.1∧x.2.1.length=x.2.2.length*12∧aD x.2.1=true∧tY x.2.1 x.2.2.length=true∧fT xs (n-x.1) x.1 x.2=eT xs n)
  (fun x=>DN n xs x.2.2.length x.2.2.length x.2.1 x.2.2 x.1) (fun x=>n-x.1) (aE f161 0) (aG f161 0)
  (fun _=>O7 (eT xs n).2.length (eT xs n).2.length (eT xs n).1 (eT xs n).2) (fun _=>[]) (fun _ _=>aL.nil) (fun x hx=> ?_) (0,[],[]) ⟨by simp,by simp,rfl,rfl,rfl,rfl⟩
 obtain⟨i,ys,ps⟩:=x
 obtain⟨h1,h2,h3,h4,h5,h6⟩:=hx
 dsimp only at h1 h2 h3 h4 h5 h6⊢
 by_cases hi:i<n
 ·have hkk:n-i=(n-(i+1))+1:=by omega
  rw[hkk]at h6
  simp only[fT]at h6
  have hK:=TB hf ys ps.length i
  by_cases hz:ld4 (KK xs ys ps.length i)<0
  ·rw[decide_eq_true hz,cond_true]at h6
   refine⟨_,_,_,_,_,_,W7 n xs ps.length ps.length ys ps i (by omega), ?_,by simp,.inl ⟨rfl,(i+1,ys,ps),⟨by omega,by dsimp only;omega,h3,h4,h5,h6⟩,by dsimp only;omega,rfl,rfl⟩⟩
   simp only[h4,h5,tR hf,Bool.and_true,rpS,Bool.true_and,Bool.and_eq_true,decide_eq_true_eq]
   omega
  ·rw[decide_eq_false hz,cond_false]at h6
   have h0:0≤ld4 (KK xs ys ps.length i):=by omega
   have hb:ld4 (KK xs ys ps.length i)≤3:=by rcases wR h0 with h|h|h|h<;>omega
   refine⟨_,_,_,_,_,_,W8 n xs ps.length ps.length ys ps i (by omega), ?_,by simp,
    .inl ⟨rfl,(i+1,ys++nP (KK xs ys ps.length i),ps++[(i:Int)]),⟨by omega,by simp;omega,by simp[BL];omega,eC h4 (BK _), ?_,h6⟩,by dsimp only;omega, ?_,rfl⟩⟩
   ·simp only[h4,h5,tR hf,aU hK,OM hK,cI,rQ,Bool.and_true,rpS,Bool.true_and,Bool.and_eq_true,decide_eq_true_eq,Bool.not_eq_true',decide_eq_false_iff_not,true_and,and_true]
    omega
   ·dsimp only;rw[List.length_append];exact HO h3 h5 hK h0
   ·dsimp only;rw[List.length_append];rfl
 ·have hz:n-i=0:=by omega
  rw[hz]at h6
  simp only[fT]at h6
  exact⟨_,_,_,_,_,_,W9 n xs ps.length ps.length ys ps i,by simp;omega,by simp,.inr ⟨rfl,by rw[←h6]⟩⟩
noncomputable def NU (n:Nat) (xs:List Int):St:=
 aS f161.ntmps [(3,.c (.ptr 0 0 0 0)),(12,.c (.view none (.ints .i64 xs) n 4 none)),(13,.c (.int .i64 n)),(14,.c (.int .i64 0))] [.live (.cells [.nils,.nils])]
def DG:aO:=fun args h=>
 match args,h with
 |[.c (.view _ (.ints .i64 xs) n 4 _)],[]=>
  some (.c (.ptr 0 0 0 0),[.live (.cells [.sl 1 0 (eT xs n).2.length 12 none,.sl 2 0 (eT xs n).2.length 1 none]),.live (.ints .i64 (eT xs n).1),.live (.ints .i64 (eT xs n).2)],[decide (n≤8),aD xs])
 |_,_=>none
theorem aB3:aT Tryz.prog 256 DG:=by
 intro args h res h' o hnorm he ho
 unfold DG at he
 split at he
 case h_2=>cases he
 rename_i nl xs n cap
 simp only[Option.some.injEq,Prod.mk.injEq]at he
 obtain⟨rfl,rfl,rfl⟩:=he
 simp only[List.mem_cons,List.not_mem_nil,or_false,forall_eq_or_imp,forall_eq,decide_eq_true_eq]at ho
 obtain⟨o1,o2⟩:=ho
 simp only[b8,AV.norm,bA,aI.norm,Con.size,List.cons.injEq,AV.c.injEq,AV.agg.injEq,aI.view.injEq,aN,true_and,and_true]at hnorm
 obtain⟨hn1,hn2,hn3⟩:=hnorm
 refine bF.len ⟨f161,by kernel_rfl,by kernel_rfl,by kernel_rfl⟩ fun hlen=> ?_
 simp only[List.mem_cons,List.not_mem_nil,or_false,forall_eq,AV.lenOk,aI.lenOk,Con.size]at hlen
 subst hn1 hn3
 have g:=(a9B n xs o1 hlen.symm o2).pre (s:=NU n xs) ((fC.nilH 0 0 0 12 (.ints .i64 []) rfl _).trans (fC.nilH 0 0 1 1 (.ints .i64 []) rfl _))
 exact cA t17 (fn:=f161) (lc:=[(0,⟨aE f161 0,NU n xs,.normal,O7 (eT xs n).2.length (eT xs n).2.length (eT xs n).1 (eT xs n).2⟩)]) (fuel:=100) (p:=[])
  (o:=⟨_,_,true,[NU n xs=NU n xs]⟩)
  (by kernel_rfl) (by kernel_rfl) (by kernel_rfl) rfl (by simp) (fun cc hc=>aL.cons (c:=cc) (by cases hc;kernel_rfl) (by cases hc;exact g) aL.nil)
end
section
def T18:List aZ:=[⟨256,[],nm DG⟩]++T17
theorem e18:aA Tryz.prog T18:=by
 refine aA.append ?_ e17
 intro e he
 simp only[List.mem_cons,List.not_mem_nil,or_false]at he
 subst he;exact aB3.ok
theorem t18:bL Tryz.prog (aH T18):=aQ e18
theorem Y8 (xs:List Int) (n:Nat):aJ tt (aH T18) [] 100 Tryz.f254 [.c (.view none (.ints .i64 xs) n 4 none)] [] []=
  some ⟨.c (.int .i64 (↑(eT xs n).snd.length:Int)),[],(decide (n≤8)&&((aD xs)&&true)),[]⟩:=by kernel_rfl
def MN (xs:List Int) (n:Nat):Nat:=(eT xs n).2.length
def D6:aO:=fun args h=>
 match args,h with
 |[.c (.view _ (.ints .i64 xs) n 4 _)],[]=>
  some (.c (.int .i64 (MN xs n)),[],[decide (n≤8),aD xs])
 |_,_=>none
theorem aB1:aT Tryz.prog 254 D6:=by
 intro args h res h' o hnorm he ho
 unfold D6 at he
 split at he
 case h_2=>cases he
 rename_i nl xs n cap
 simp only[Option.some.injEq,Prod.mk.injEq]at he
 obtain⟨rfl,rfl,rfl⟩:=he
 simp only[List.mem_cons,List.not_mem_nil,or_false,forall_eq_or_imp,forall_eq,decide_eq_true_eq]at ho
 obtain⟨o1,o2⟩:=ho
 simp only[b8,AV.norm,bA,aI.norm,Con.size,List.cons.injEq,AV.c.injEq,AV.agg.injEq,aI.view.injEq,aN,true_and,and_true]at hnorm
 obtain⟨hn1,hn2,hn3⟩:=hnorm
 subst hn1 hn3
 exact mo t18 (Y8 xs n) (by simp[o1,o2])
def T19:List aZ:=[⟨254,[],nm D6⟩]++T18
theorem e19:aA Tryz.prog T19:=by
 refine aA.append ?_ e18
 intro e he
 simp only[List.mem_cons,List.not_mem_nil,or_false]at he
 subst he;exact aB1.ok
theorem t19:bL Tryz.prog (aH T19):=aQ e19
theorem XZ (k:Int) (v:List Int):aJ tt (aH T19) [] 100 Tryz.f220 [.c (.int .i64 k),.c (.view none (.ints .i64 v) v.length 1 none)] [] []=
  some ⟨.c (.bool ((↑(MN (gC k v) v.length):Int)==4)),[],(decide (v.length≤274877906944)&&(bet k 1 2&&(bD v&&(decide (v.length*4=(gC k v).length)&&(decide (v.length≤8)&&((aD (gC k v))&&true)))))),[]⟩:=by kernel_rfl
def c8 (k:Int) (v:List Int):Bool:=(MN (gC k v) v.length:Int)==4
def xK:aO:=fun args h=>
 match args,h with
 |[.c (.int .i64 k),.c (.view _ (.ints .i64 v) n 1 _)],[]=>
  some (.c (.bool (c8 k v)),[],[decide (v.length≤8),bet k 1 2,bD v])
 |_,_=>none
theorem MW {k a:Int} (hk:bet k 1 2=true) (ha:bet a 0 7=true):aD (BU k a)=true:=by
 refine MD (q:=fun k a=>aD (BU k a)=true) (fun i hi=> ?_) hk ha
 have all:cN (fun k=>aD (BU ((k/8:Nat)+1:Int) (k%8:Nat))) 16=true:=by kernel_rfl
 exact aX all i hi
theorem uQ {k:Int} (hk:bet k 1 2=true) {v:List Int} (hv:bD v=true): ∀m i,i+m≤v.length→aD (jB k v m i)=true
 |0,_,_=>rfl
 |m+1,i,h=>eC (MW hk (dA hv (by omega))) (uQ hk hv m (i+1) (by omega))
theorem pF {k:Int} (hk:bet k 1 2=true) {v:List Int} (hv:bD v=true):aD (gC k v)=true:=uQ hk hv _ _ (by omega)
theorem uR (k:Int) (v:List Int): ∀m i,(jB k v m i).length=m*4
 |0,_=>by simp[jB]
 |m+1,i=>by simp[jB,BU,uR k v m (i+1)];omega
theorem x9 (k:Int) (v:List Int):(gC k v).length=v.length*4:=uR k v _ _
theorem aAK:aT Tryz.prog 220 xK:=by
 intro args h res h' o hnorm he ho
 unfold xK at he
 split at he
 case h_2=>cases he
 rename_i k nl v n cap
 simp only[Option.some.injEq,Prod.mk.injEq]at he
 obtain⟨rfl,rfl,rfl⟩:=he
 simp only[List.mem_cons,List.not_mem_nil,or_false,forall_eq_or_imp,forall_eq,decide_eq_true_eq]at ho
 obtain⟨o1,o2,o3⟩:=ho
 simp only[b8,AV.norm,bA,aI.norm,Con.size,List.cons.injEq,AV.c.injEq,AV.agg.injEq,aI.view.injEq,aN,true_and,and_true]at hnorm
 obtain⟨rfl,rfl,rfl⟩:=hnorm
 exact mo t19 (XZ k v) (by simp[o1,o2,o3,pF,x9];omega)
end
section
def bI {β:Type} (step:Nat→β→β):Nat→Nat→β→β
 |0,_,b=>b
 |f+1,i,b=>bI step f (i+1) (step i b)
def cG {β γ:Type} (step:Nat→β→β⊕γ):Nat→Nat→β→β⊕γ
 |0,_,b=> .inl b
 |f+1,i,b=>match step i b with
  |.inl b'=>cG step f (i+1) b'
  |.inr c=> .inr c
theorem uT {β:Type} {step:Nat→β→β} (Inv:Nat→β→Prop): ∀(f i:Nat) (b:β),Inv i b→(∀k b,i≤k→k<i+f→Inv k b→Inv (k+1) (step k b))→Inv (i+f) (bI step f i b)
 |0,i,b,h,_=>h
 |f+1,i,b,h,hs=>by
  have:=uT (step:=step) Inv f (i+1) (step i b) (hs i b (Nat.le_refl _) (by omega) h) (fun k b h1 h2=>hs k b (by omega) (by omega))
  rw[show i+(f+1)=i+1+f from by omega]
  exact this
theorem aY {β:Type} {step:Nat→β→β} (Inv:Nat→β→Prop) (n:Nat) (b:β) (h:Inv 0 b) (hs: ∀k b,k<n→Inv k b→Inv (k+1) (step k b)):Inv n (bI step n 0 b):=by
 have:=uT Inv n 0 b h (fun k b _ h2=>hs k b (by omega))
 rwa[Nat.zero_add]at this
theorem uS {β:Type} {s s':Nat→β→β}: ∀(f i:Nat) (b:β),(∀k b,i≤k→k<i+f→s k b=s' k b)→bI s f i b=bI s' f i b
 |0,_,_,_=>rfl
 |f+1,i,b,h=>by
  simp only[bI]
  rw[h i b (Nat.le_refl _) (by omega)]
  exact uS f (i+1) _ fun k b h1 h2=>h k b (by omega) (by omega)
def cL (f:Nat→Bool):Nat→Nat→Bool
 |0,_=>true
 |n+1,i=>f i&&cL f n (i+1)
theorem cF {f:Nat→Bool}: ∀ {n i:Nat},cL f n i=true↔ ∀k,i≤k→k<i+n→f k=true
 |0,i=>⟨fun _ k h1 h2=>absurd h1 (by omega),fun _=>rfl⟩
 |n+1,i=>by
  simp only[cL,Bool.and_eq_true,rpS,cF (n:=n) (i:=i+1)]
  constructor
  ·rintro⟨h1,h2⟩ k h3 h4
   by_cases e:k=i
   ·subst e;exact h1
   ·exact h2 k (by omega) (by omega)
  ·intro h
   exact⟨h i (Nat.le_refl _) (by omega),fun k h1 h2=>h k (by omega) (by omega)⟩
theorem BW (f:Nat→Bool): ∀(n i:Nat),cG (β:=Unit) (γ:=Unit) (fun i _=>bif f i then .inl ()else .inr ()) n i ()=bif cL f n i then .inl ()else .inr ()
 |0,i=>rfl
 |n+1,i=>by
  simp only[cG,cL]
  cases h:f i
  ·rfl
  ·exact BW f n (i+1)
inductive Rnd (m:Nat) (live liveX:List Nat) (r:Option Out) (ex:Ex) (s:St):Prop
 |mk (b:Bool) (q:List Prop) (h:aK m live liveX r=some (ex,b,q,s)) (hb:b=true) (hq: ∀x∈q,x)
section
variable {ro : Option Nat} {P : Program} {tt : Tab} (hT : iK P tt) {ct : CT} (hct : bL P ct) (bE : P.follows .mixedOrders = true)
include hT hct bE
theorem aP.count {m id:Nat} {body:Code} {β:Type} (n:Nat) (Inv:Nat→β→Prop) (I:Nat→β→St) (X:β→St) (step:Nat→β→β) (live liveX:List Nat) (lc:Nat→β→List (Nat×LC))
  (hlc: ∀i b,i<n→Inv i b→aL ro P m (lc i b) body)
  (hr: ∀i b,i<n→Inv i b→Inv (i+1) (step i b)∧ ∃f p,Rnd m live liveX (aM tt ct (lc i b) m f body (I i b) p) .normal (I (i+1) (step i b)))
  (hx: ∀b,Inv n b→ ∃f p,Rnd m live liveX (aM tt ct [] m f body (I n b) p) (.exit id) (X b)):
  ∀b,Inv 0 b→aP ro P m (.block id (.loop body)) (I 0 b) fun e t=>e=.normal∧t=X (bI step n 0 b):=by
 intro b hb
 refine aP.roundsN hT hct bE (m:=m) (id:=id) (body:=body) (α:=Nat×β) (fun x=>x.1≤n∧Inv x.1 x.2) (fun x=>I x.1 x.2) (fun x=>n-x.1) live liveX
  (fun x=>X (bI step (n-x.1) x.1 x.2)) (fun x=>if x.1<n then lc x.1 x.2 else []) (fun x h=>by
   split
   ·rename_i hi;exact hlc _ _ hi h.2
   ·exact aL.nil) (fun x hinv=> ?_) (0,b) ⟨Nat.zero_le _,hb⟩
 obtain⟨i,b⟩:=x
 obtain⟨h1,h2⟩:=hinv
 dsimp only at h1 h2⊢
 by_cases hi:i<n
 ·rw[if_pos hi]
  obtain⟨g1,f,p,⟨o,q,h,ho,hq⟩⟩:=hr i b hi h2
  refine⟨f,p,_,o,q,_,h,ho,hq,.inl ⟨rfl,(i+1,step i b),⟨by omega,g1⟩,by dsimp only;omega,rfl, ?_⟩⟩
  dsimp only
  rw[show n-i=(n-(i+1))+1 from by omega];rfl
 ·have e:i=n:=by omega
  subst e
  rw[if_neg hi]
  obtain⟨f,p,⟨o,q,h,ho,hq⟩⟩:=hx b h2
  exact⟨f,p,_,o,q,_,h,ho,hq,.inr ⟨rfl,by rw[Nat.sub_self];rfl⟩⟩
theorem aP.countE {m id:Nat} {body:Code} {β γ:Type} (n:Nat) (Inv:Nat→β→Prop) (I:Nat→β→St) (X:β→St) (Y:γ→St) (exY:Ex) (hexY:exY=.normal∨exY=.ret) (step:Nat→β→β⊕γ)
  (live liveX:List Nat) (lc:Nat→β→List (Nat×LC))
  (hlc: ∀i b,i<n→Inv i b→aL ro P m (lc i b) body)
  (hr: ∀i b,i<n→Inv i b→(∃b',step i b=.inl b'∧Inv (i+1) b'∧ ∃f p,Rnd m live liveX (aM tt ct (lc i b) m f body (I i b) p) .normal (I (i+1) b'))∨
   (∃c,step i b=.inr c∧ ∃f p,Rnd m live liveX (aM tt ct (lc i b) m f body (I i b) p) (if exY=.normal then .exit id else exY) (Y c)))
  (hx: ∀b,Inv n b→ ∃f p,Rnd m live liveX (aM tt ct [] m f body (I n b) p) (.exit id) (X b)):
  ∀b,Inv 0 b→aP ro P m (.block id (.loop body)) (I 0 b) fun e t=>match cG step n 0 b with
   |.inl b'=>e=.normal∧t=X b'
   |.inr c=>e=exY∧t=Y c:=by
 intro b hb
 have key:=aP.roundsR hT hct bE (m:=m) (id:=id) (body:=body) (α:=Nat×β) (fun x=>x.1≤n∧Inv x.1 x.2) (fun x=>I x.1 x.2) (fun x=>n-x.1) live liveX
  (fun x=>match cG step (n-x.1) x.1 x.2 with|.inl _=> .normal|.inr _=>exY) (fun x=>match cG step (n-x.1) x.1 x.2 with|.inl b'=>X b'|.inr c=>Y c)
  (fun x=>if x.1<n then lc x.1 x.2 else []) (fun x h=>by
   split
   ·rename_i hi;exact hlc _ _ hi h.2
   ·exact aL.nil) (fun x hinv=> ?_) (0,b) ⟨Nat.zero_le _,hb⟩
 ·refine aP.mono key fun e t h=> ?_
  dsimp only[Nat.sub_zero]at h
  revert h
  cases cG step n 0 b<;>exact fun h=>h
 ·obtain⟨i,b⟩:=x
  obtain⟨h1,h2⟩:=hinv
  dsimp only at h1 h2⊢
  by_cases hi:i<n
  ·rw[if_pos hi]
   have hk:n-i=(n-(i+1))+1:=by omega
   rcases hr i b hi h2 with⟨b',hs,g1,f,p,⟨o,q,h,ho,hq⟩⟩|⟨c,hs,f,p,⟨o,q,h,ho,hq⟩⟩
   ·refine⟨f,p,_,o,q,_,h,ho,hq,.inl ⟨rfl,(i+1,b'),⟨by omega,g1⟩,by dsimp only;omega,rfl, ?_, ?_⟩⟩
    ·dsimp only;rw[hk];simp only[cG,hs]
    ·dsimp only;rw[hk];simp only[cG,hs]
   ·have e1:cG step (n-i) i b=.inr c:=by rw[hk];simp only[cG,hs]
    rw[e1]
    rcases hexY with e|e
    ·subst e
     rw[if_pos rfl]at h
     exact⟨f,p,_,o,q,_,h,ho,hq,.inr (.inl ⟨rfl,rfl,rfl⟩)⟩
    ·subst e
     rw[if_neg (by intro h;cases h)]at h
     exact⟨f,p,_,o,q,_,h,ho,hq,.inr (.inr ⟨(by intro h;cases h),(by intro h;cases h),rfl,rfl⟩)⟩
  ·have e:i=n:=by omega
   subst e
   rw[if_neg hi]
   obtain⟨f,p,⟨o,q,h,ho,hq⟩⟩:=hx b h2
   have e1:cG step (i-i) i b=.inl b:=by rw[Nat.sub_self];rfl
   rw[e1]
   exact⟨f,p,_,o,q,_,h,ho,hq,.inr (.inl ⟨rfl,rfl,rfl⟩)⟩
theorem aP.all {m id:Nat} {body:Code} (n:Nat) (f:Nat→Bool) (I:Nat→St) (X Y:St) (exY:Ex) (hexY:exY=.normal∨exY=.ret) (live liveX:List Nat) (lc:Nat→List (Nat×LC))
  (hlc: ∀i,i<n→aL ro P m (lc i) body)
  (ht: ∀i,i<n→f i=true→ ∃g p,Rnd m live liveX (aM tt ct (lc i) m g body (I i) p) .normal (I (i+1)))
  (hf: ∀i,i<n→f i=false→ ∃g p,Rnd m live liveX (aM tt ct (lc i) m g body (I i) p) (if exY=.normal then .exit id else exY) Y)
  (hx: ∃g p,Rnd m live liveX (aM tt ct [] m g body (I n) p) (.exit id) X):
  aP ro P m (.block id (.loop body)) (I 0) fun e t=>e=(bif cL f n 0 then .normal else exY)∧t=bif cL f n 0 then X else Y:=by
 have key:=aP.countE hT hct bE (m:=m) (id:=id) (body:=body) (β:=Unit) (γ:=Unit) n (fun _ _=>True) (fun i _=>I i) (fun _=>X) (fun _=>Y) exY hexY (fun i _=>bif f i then .inl ()else .inr ())
  live liveX (fun i _=>lc i) (fun i _ h _=>hlc i h) (fun i _ hi _=> ?_) (fun _ _=>hx) () trivial
 ·refine aP.mono key fun e t h=> ?_
  rw[BW]at h
  revert h
  cases cL f n 0<;>exact fun h=>h
 ·cases h:f i with
  |true=>exact .inl ⟨(),rfl,trivial,ht i hi h⟩
  |false=>exact .inr ⟨(),rfl,hf i hi h⟩
end
end
section
def T20:List aZ:=[⟨220,[],nm xK⟩]++T19
theorem e20:aA Tryz.prog T20:=by
 refine aA.append ?_ e19
 intro e he
 simp only[List.mem_cons,List.not_mem_nil,or_false]at he
 subst he;exact aAK.ok
theorem t20:bL Tryz.prog (aH T20):=aQ e20
noncomputable abbrev c9:=Tryz.f221
def lI (ys:List Int) (i:Nat):List Int:=[ys.getD (i*12+0) 0,ys.getD (i*12+1) 0,ys.getD (i*12+2) 0,ys.getD (i*12+3) 0,ys.getD (i*12+4) 0,ys.getD (i*12+5) 0,ys.getD (i*12+6) 0,ys.getD (i*12+7) 0,ys.getD (i*12+8) 0,ys.getD (i*12+9) 0,ys.getD (i*12+10) 0,ys.getD (i*12+11) 0]
noncomputable def pX (w v ys:List Int) (r:Nat) (n:Nat) (zs:List Int) (i:Int):St:=
 aS c9.ntmps [(1,.c (.view none (.ints .i64 w) w.length 1 none)),(2,.c (.view none (.ints .i64 v) v.length 1 none)),(6,.c (.ptr 0 0 0 0)),(7,.c (.ptr 1 0 0 0)),(9,.c (.sl 2 0 n 5 none)),
  (29,.c (.sl 3 0 r 12 none)),(30,.c (.int .i64 r)),(31,.c (.int .i64 i))]
  [.live (.ints .i64 [0,0,0,0]),.live (.ints .i64 [0,0,0,0]),.live (.ints .i64 zs),.live (.ints .i64 ys)]
noncomputable def mU (w v ys:List Int) (r n:Nat) (zs kk:List Int) (i val j:Int):St:=
 aS c9.ntmps [(1,.c (.view none (.ints .i64 w) w.length 1 none)),(2,.c (.view none (.ints .i64 v) v.length 1 none)),(6,.c (.ptr 0 0 0 0)),(7,.c (.ptr 1 0 0 0)),(9,.c (.sl 2 0 n 5 none)),
  (11,.c (.ptr 3 0 0 0)),(12,.c (.int .i64 val)),(29,.c (.sl 4 0 r 12 none)),(30,.c (.int .i64 r)),(31,.c (.int .i64 i)),(35,.c (.view none (.ints .i64 v) v.length 1 none)),(36,.c (.int .i64 v.length)),
  (37,.c (.int .i64 j))]
  [.live (.ints .i64 [0,0,0,0]),.live (.ints .i64 [0,0,0,0]),.live (.ints .i64 zs),.live (.ints .i64 kk),.live (.ints .i64 ys)]
noncomputable def AF (w v ys:List Int) (r n:Nat) (zs kk:List Int) (i val:Int):St:=
 aS c9.ntmps [(1,.c (.view none (.ints .i64 w) w.length 1 none)),(2,.c (.view none (.ints .i64 v) v.length 1 none)),(6,.c (.ptr 0 0 0 0)),(7,.c (.ptr 1 0 0 0)),(9,.c (.sl 2 0 n 5 none)),
  (11,.c (.ptr 3 0 0 0)),(12,.c (.int .i64 val)),(29,.c (.sl 4 0 r 12 none)),(30,.c (.int .i64 r)),(31,.c (.int .i64 i))]
  [.live (.ints .i64 [0,0,0,0]),.live (.ints .i64 [0,0,0,0]),.live (.ints .i64 zs),.live (.ints .i64 kk),.live (.ints .i64 ys)]
noncomputable def FS (zs:List Int) (n:Nat):St:=
 aS c9.ntmps [(6,.c (.ptr 0 0 0 0)),(7,.c (.ptr 1 0 0 0)),(9,.c (.sl 2 0 n 5 none))]
  [.live (.ints .i64 [0,0,0,0]),.live (.ints .i64 [0,0,0,0]),.live (.ints .i64 zs)]
theorem PX (w v ys:List Int) (r n:Nat) (zs kk:List Int) (i val j:Int):aK 0 (aE c9 2) (aG c9 2) (aM tt (aH T20) [] 0 100 (aC 2 (aB c9)) (mU w v ys r n zs kk i val j) [(0,true)])=
  some (.normal,(decide (j<(↑v.length:Int))&&(decide (0≤j)&&(decide (j<(↑v.length:Int))&&(decide (j.toNat<v.length)&&(decide (0≤j)&&(decide (j<8)&&(decide (j.toNat*1+4<kk.length)&&(decide (0≤v.getD j.toNat 0)&&(decide (v.getD j.toNat 0<(↑w.length:Int))&&(decide ((v.getD j.toNat 0).toNat<w.length)&&(fok (kk.getD (j.toNat*1+4) 0)&&(fok (w.getD (v.getD j.toNat 0).toNat 0)&&(fok val&&((fok (kk.getD (j.toNat*1+4) 0*w.getD (v.getD j.toNat 0).toNat 0%31))&&true)))))))))))))),[],mU w v ys r n zs kk i ((val+kk.getD (j.toNat*1+4) 0*w.getD (v.getD j.toNat 0).toNat 0%31)%31) (IntKind.i64.wrap (j+1))):=by kernel_rfl
theorem PY (w v ys:List Int) (r n:Nat) (zs kk:List Int) (i val j:Int):aK 0 (aE c9 2) (aG c9 2) (aM tt (aH T20) [] 0 100 (aC 2 (aB c9)) (mU w v ys r n zs kk i val j) [(0,false)])=
  some (.exit 2,((!decide (j<(↑v.length:Int)))&&true),[],AF w v ys r n zs kk i (val)):=by kernel_rfl
theorem PV (w v ys:List Int) (r n:Nat) (zs:List Int) (i val:Int):aK 0 (aE c9 0) (aG c9 0) (aM tt (aH T20) [(2,⟨aE c9 2,mU w v ys r n zs (lI ys i.toNat) i 0 0,.normal,AF w v ys r n zs (lI ys i.toNat) i val⟩)] 0 100 (aC 0 (aB c9)) (pX w v ys r n zs i) [(0,true)])=
  some (.normal,(decide (i<(↑r:Int))&&(decide (0≤i)&&(decide (i<(↑r:Int))&&(decide (i.toNat*12+12≤ys.length)&&(decide (n*5=zs.length)&&((decide (n+1≤274877906944))&&true)))))),[mU w v ys r n zs (lI ys i.toNat) i 0 0=mU w v ys r n zs (lI ys i.toNat) i 0 0],pX w v ys r (n+1) (zs++[ys.getD (i.toNat*12) 0,ys.getD (i.toNat*12+1) 0,ys.getD (i.toNat*12+2) 0,ys.getD (i.toNat*12+3) 0,val]) (IntKind.i64.wrap (i+1))):=by kernel_rfl
theorem PW (w v ys:List Int) (r n:Nat) (zs:List Int) (i val:Int) (lcv:List (Nat×LC)):aK 0 (aE c9 0) (aG c9 0) (aM tt (aH T20) lcv 0 100 (aC 0 (aB c9)) (pX w v ys r n zs i) [(0,false)])=
  some (.exit 0,((!decide (i<(↑r:Int)))&&true),[],FS (zs) (n)):=by kernel_rfl
def N6 (zs:List Int) (j:Nat) (a b c d:Int):List Int:=(((zs.set (j*5) a).set (j*5+1) b).set (j*5+2) c).set (j*5+3) d
def elC (zs:List Int) (at_:Int) (j:Nat):Int:=zs.getD (j*5+at_.toNat*1) 0
def elE (zs:List Int) (i j:Nat) (at_:Int) (q:Nat):Int:=(zs.getD (j*5+q) 0+zs.getD (i*5+q) 0*elC zs at_ j%31*30%31)%31
def lN (zs:List Int) (i:Nat) (at_:Int) (j:Nat):List Int:=N6 zs j (elE zs i j at_ 0) (elE zs i j at_ 1) (elE zs i j at_ 2) (elE zs i j at_ 3)
def n6 (zs:List Int) (i:Nat) (at_:Int) (j:Nat):List Int:=
 (lN zs i at_ j).set (j*5+4) (((lN zs i at_ j).getD (j*5+4) 0-(lN zs i at_ j).getD (i*5+4) 0*elC zs at_ j%31)%31)
def ld5 (zs:List Int) (i:Nat):Int:=eE (fun x=>x !=0) [zs.getD (i*5) 0,zs.getD (i*5+1) 0,zs.getD (i*5+2) 0,zs.getD (i*5+3) 0]
noncomputable def pY (n:Nat) (zs:List Int) (i:Int):St:=
 aS c9.ntmps [(6,.c (.ptr 0 0 0 0)),(7,.c (.ptr 1 0 0 0)),(9,.c (.sl 2 0 n 5 none)),(63,.c (.int .i64 n)),(64,.c (.int .i64 i))]
  [.live (.ints .i64 [0,0,0,0]),.live (.ints .i64 [0,0,0,0]),.live (.ints .i64 zs)]
noncomputable def lJ (n:Nat) (zs:List Int) (i at_ j:Int):St:=
 aS c9.ntmps [(6,.c (.ptr 0 0 0 0)),(7,.c (.ptr 1 0 0 0)),(9,.c (.sl 2 0 n 5 none)),(15,.c (.int .i64 i)),(16,.c (.int .i64 at_)),(63,.c (.int .i64 n)),(64,.c (.int .i64 i)),(74,.c (.int .i64 n)),
  (75,.c (.int .i64 j))]
  [.live (.ints .i64 [0,0,0,0]),.live (.ints .i64 [0,0,0,0]),.live (.ints .i64 zs)]
noncomputable def AG (n:Nat) (zs:List Int) (i:Int):St:=
 aS c9.ntmps [(6,.c (.ptr 0 0 0 0)),(7,.c (.ptr 1 0 0 0)),(9,.c (.sl 2 0 n 5 none)),(63,.c (.int .i64 n)),(64,.c (.int .i64 i))]
  [.live (.ints .i64 [0,0,0,0]),.live (.ints .i64 [0,0,0,0]),.live (.ints .i64 zs)]
noncomputable def FT (n:Nat) (zs:List Int):St:=
 aS c9.ntmps [(6,.c (.ptr 0 0 0 0)),(7,.c (.ptr 1 0 0 0)),(9,.c (.sl 2 0 n 5 none))]
  [.live (.ints .i64 [0,0,0,0]),.live (.ints .i64 [0,0,0,0]),.live (.ints .i64 zs)]
def nQ (n:Nat) (zs:List Int) (i at_ j:Int):=bt6 ((((zs.set (j.toNat*5) ((zs.getD (j.toNat*5) 0+zs.getD (i.toNat*5) 0*zs.getD (j.toNat*5+at_.toNat*1) 0%31*30%31)%31)).set (j.toNat*5+1) ((zs.getD (j.toNat*5+1) 0+zs.getD (i.toNat*5+1) 0*zs.getD (j.toNat*5+at_.toNat*1) 0%31*30%31)%31)).set (j.toNat*5+2) ((zs.getD (j.toNat*5+2) 0+zs.getD (i.toNat*5+2) 0*zs.getD (j.toNat*5+at_.toNat*1) 0%31*30%31)%31)).set (j.toNat*5+3) ((zs.getD (j.toNat*5+3) 0+zs.getD (i.toNat*5+3) 0*zs.getD (j.toNat*5+at_.toNat*1) 0%31*30%31)%31)) (j.toNat*5+at_.toNat*1) (aM tt (aH T20) [] 0 100 (aC 6 (aB c9)) (lJ n zs i at_ j)) (↑n:Int) (aK 0 (aE c9 6) (aG c9 6)) (IntKind.i64.wrap (j+1)) (P:=fun q0 q1 q2 q3 q4 q5=>q4 (q2 [(0,true),(0,true),(0,true)])=
  some (.normal,(decide (j<q3)&&(decide (0≤j)&&(decide (j<q3)&&(decide (0≤at_)&&(decide (at_<4)&&(decide (j.toNat*5+at_.toNat*1<zs.length)&&(rp2 (j !=i) ((bif j !=i then zs.getD q1 0 !=0 else false)&&(decide (0≤j)&&(decide (j<q3)&&(decide (j.toNat*5+4≤zs.length)&&(decide (0≤i)&&(decide (i<q3)&&(decide (i.toNat*5+4≤zs.length)&&(fok (zs.getD (i.toNat*5) 0)&&(fok (zs.getD q1 0)&&(fok (zs.getD (i.toNat*5+1) 0)&&(fok (zs.getD q1 0)&&(fok (zs.getD (i.toNat*5+2) 0)&&(fok (zs.getD q1 0)&&(fok (zs.getD (i.toNat*5+3) 0)&&(fok (zs.getD q1 0)&&(fok (zs.getD (j.toNat*5) 0)&&(fok (zs.getD (i.toNat*5) 0*zs.getD q1 0%31)&&(fok (zs.getD (j.toNat*5+1) 0)&&(fok (zs.getD (i.toNat*5+1) 0*zs.getD q1 0%31)&&(fok (zs.getD (j.toNat*5+2) 0)&&(fok (zs.getD (i.toNat*5+2) 0*zs.getD q1 0%31)&&(fok (zs.getD (j.toNat*5+3) 0)&&(fok (zs.getD (i.toNat*5+3) 0*zs.getD q1 0%31)&&(decide (0≤j)&&(decide (j<q3)&&(decide (j.toNat*5+4≤zs.length)&&(decide (0≤j)&&(decide (j<q3)&&(decide (j.toNat*5+4<q0.length)&&(decide (0≤i)&&(decide (i<q3)&&(decide (i.toNat*5+4<q0.length)&&(fok (q0.getD (i.toNat*5+4) 0)&&(fok (zs.getD q1 0)&&(fok (q0.getD (j.toNat*5+4) 0)&&(fok (q0.getD (i.toNat*5+4) 0*zs.getD q1 0%31)&&(decide (0≤j)&&(decide (j<q3)&&((decide (j.toNat*5+4<q0.length))&&true)))))))))))))))))))))))))))))))))))))))))))))),[],lJ n (n6 zs i.toNat at_ j.toNat) i at_ q5)∧q4 (q2 [(0,true),(0,true),(0,false)])=
  some (.normal,(decide (j<q3)&&(decide (0≤j)&&(decide (j<q3)&&(decide (0≤at_)&&(decide (at_<4)&&(decide (j.toNat*5+at_.toNat*1<zs.length)&&(rp2 (j !=i) ((!bif j !=i then zs.getD q1 0 !=0 else false)&&true)))))))),[],lJ n (zs) i at_ q5)∧q4 (q2 [(0,true),(0,false)])=
  some (.normal,(decide (j<q3)&&(decide (0≤j)&&(decide (j<q3)&&(decide (0≤at_)&&(decide (at_<4)&&(decide (j.toNat*5+at_.toNat*1<zs.length)&&(rp3 (!j !=i) true))))))),[],lJ n (zs) i at_ q5)∧q4 (q2 [(0,false)])=
  some (.exit 6,((!decide (j<q3))&&true),[],AG n (zs) i)) ⟨by kernel_rfl,by kernel_rfl,by kernel_rfl,by kernel_rfl⟩
def Q1 (n:Nat) (zs:List Int) (i at_ j:Int):=(nQ n zs i at_ j).1
def Q2 (n:Nat) (zs:List Int) (i at_ j:Int):=(nQ n zs i at_ j).2.1
def Q3 (n:Nat) (zs:List Int) (i at_ j:Int):=(nQ n zs i at_ j).2.2.1
def Q4 (n:Nat) (zs:List Int) (i at_ j:Int):=(nQ n zs i at_ j).2.2.2
theorem PZ (n:Nat) (zs ts:List Int) (i:Int):aK 0 (aE c9 4) (aG c9 4) (aM tt (aH T20) [(6,⟨aE c9 6,lJ n zs i (ld5 zs i.toNat) 0,.normal,AG n ts i⟩)] 0 100 (aC 4 (aB c9)) (pY n zs i) [(0,true)])=
  some (.normal,(decide (i<(↑n:Int))&&(decide (0≤i)&&(decide (i<(↑n:Int))&&((decide (i.toNat*5+4≤zs.length))&&true)))),[lJ n zs i (ld5 zs i.toNat) 0=lJ n zs i (ld5 zs i.toNat) 0],pY n (ts) (IntKind.i64.wrap (i+1))):=by kernel_rfl
theorem Q0 (n:Nat) (zs ts:List Int) (i:Int) (lcv:List (Nat×LC)):aK 0 (aE c9 4) (aG c9 4) (aM tt (aH T20) lcv 0 100 (aC 4 (aB c9)) (pY n zs i) [(0,false)])=
  some (.exit 4,((!decide (i<(↑n:Int)))&&true),[],FT n (zs)):=by kernel_rfl
noncomputable def pZ (n:Nat) (zs out:List Int) (i:Int):St:=
 aS c9.ntmps [(6,.c (.ptr 0 0 0 0)),(7,.c (.ptr 1 0 0 0)),(128,.c (.sl 2 0 n 5 none)),(129,.c (.int .i64 n)),(130,.c (.int .i64 i))]
  [.live (.ints .i64 [0,0,0,0]),.live (.ints .i64 out),.live (.ints .i64 zs)]
noncomputable def FU (out:List Int):St:=
 aS c9.ntmps [(6,.c (.ptr 0 0 0 0)),(7,.c (.ptr 1 0 0 0))] [.live (.ints .i64 [0,0,0,0]),.live (.ints .i64 out)]
theorem Q5 (n:Nat) (zs out:List Int) (i:Int):aK 0 (aE c9 8) (aG c9 8) (aM tt (aH T20) [] 0 100 (aC 8 (aB c9)) (pZ n zs out i) [(0,true)])=
  some (.normal,(decide (i<(↑n:Int))&&(decide (0≤i)&&(decide (i<(↑n:Int))&&(decide (i.toNat*5+5≤zs.length)&&(decide (0≤ld5 zs i.toNat)&&(decide (ld5 zs i.toNat<4)&&((decide ((ld5 zs i.toNat).toNat<out.length))&&true))))))),[],pZ n zs (out.set (ld5 zs i.toNat).toNat (zs.getD (i.toNat*5+4) 0)) (IntKind.i64.wrap (i+1))):=by kernel_rfl
theorem Q6 (n:Nat) (zs out:List Int) (i:Int):aK 0 (aE c9 8) (aG c9 8) (aM tt (aH T20) [] 0 100 (aC 8 (aB c9)) (pZ n zs out i) [(0,false)])=
  some (.exit 8,((!decide (i<(↑n:Int)))&&true),[],FU (out)):=by kernel_rfl
end
section
theorem bQ {n lo hi:Int}:bet n lo hi=true↔lo≤n∧n≤hi:=by simp[bet]
def RB (w v kk:List Int) (j:Nat) (x:Int):Int:=(x+kk.getD (j*1+4) 0*w.getD (v.getD j 0).toNat 0%31)%31
def CL (w v kk:List Int):Int:=bI (RB w v kk) v.length 0 0
theorem a15 (w v ys:List Int) (r n:Nat) (zs kk:List Int) (i:Int) (hv:v.length≤8) (hs:bD v=true) (hw:w.length=8) (hwf:aD w=true) (hk:kk.length=12) (hkf:aD kk=true):
  aP none Tryz.prog 0 (.block 2 (.loop (aC 2 (aB c9)))) (mU w v ys r n zs kk i 0 0) fun e t=>e=.normal∧t=AF w v ys r n zs kk i (CL w v kk):=by
 refine aP.count (ro:=none) hT t20 bE v.length (fun _ x=>fok x=true) (fun j x=>mU w v ys r n zs kk i x j) (fun x=>AF w v ys r n zs kk i x) (RB w v kk) (aE c9 2) (aG c9 2)
  (fun _ _=>[]) (fun _ _ _ _=>aL.nil) (fun j x hj hx=>⟨cB _, ?_⟩) (fun x hx=>⟨_,_,⟨_,_,PY w v ys r n zs kk i x v.length,by simp,by simp⟩⟩) 0 rfl
 ·have hb:=bQ.1 (dA hs hj)
  have e:=PX w v ys r n zs kk i x j
  rw[aF (by omega) (by omega),Int.toNat_natCast]at e
  refine⟨_,_,⟨_,_,e, ?_,by simp⟩⟩
  simp only[aU hkf,aU hwf,hx,cB,Bool.true_and,rpS,Bool.and_true,Bool.and_eq_true,decide_eq_true_eq]
  omega
def jO (w v ys:List Int) (i:Nat) (zs:List Int):List Int:=zs++[ys.getD (i*12) 0,ys.getD (i*12+1) 0,ys.getD (i*12+2) 0,ys.getD (i*12+3) 0,CL w v (lI ys i)]
def lX (w v ys:List Int) (r:Nat):List Int:=bI (jO w v ys) r 0 []
theorem MX {ys:List Int} (h:aD ys=true) (i:Nat):aD (lI ys i)=true:=by
 simp only[aD,lI,List.all_cons,List.all_nil,aU h,Bool.and_self]
theorem N5 {step:Nat→Int→Int} (f i:Nat) (b:Int) (hb:fok b=true) (h: ∀k x,fok (step k x)=true):fok (bI step f i b)=true:=
 uT (fun _ x=>fok x=true) f i b hb fun k x _ _ _=>h k x
theorem NG (w v kk:List Int):fok (CL w v kk)=true:=N5 _ _ _ rfl fun _ _=>cB _
theorem CI {w v ys:List Int} (hy:aD ys=true) {i:Nat} {zs:List Int} (h:zs.length=i*5∧aD zs=true):(jO w v ys i zs).length=(i+1)*5∧aD (jO w v ys i zs)=true:=by
 refine⟨by simp[jO,h.1];omega,eC h.2 ?_⟩
 simp only[aD,List.all_cons,List.all_nil,aU hy,NG,Bool.and_self]
theorem CH {w v ys:List Int} (hy:aD ys=true) (r:Nat):(lX w v ys r).length=r*5∧aD (lX w v ys r)=true:=
 aY (fun i zs=>zs.length=i*5∧aD zs=true) r [] ⟨rfl,rfl⟩ fun k b _ h=>CI hy h
theorem OR:aC 2 (aC 0 (aB c9))=aC 2 (aB c9):=by kernel_rfl
theorem OS:aC 6 (aC 4 (aB c9))=aC 6 (aB c9):=by kernel_rfl
theorem a0Z (w v ys:List Int) (r:Nat) (hv:v.length≤8) (hs:bD v=true) (hw:w.length=8) (hwf:aD w=true) (hr:r≤8) (hy:ys.length=r*12) (hyf:aD ys=true):
  aP none Tryz.prog 0 (.block 0 (.loop (aC 0 (aB c9)))) (pX w v ys r 0 [] 0) fun e t=>e=.normal∧t=FS (lX w v ys r) r:=by
 refine(aP.count (ro:=none) hT t20 bE r (fun i zs=>zs.length=i*5∧aD zs=true) (fun i zs=>pX w v ys r i zs i) (fun zs=>FS zs r) (jO w v ys) (aE c9 0) (aG c9 0)
  (fun i zs=>[(2,⟨aE c9 2,mU w v ys r i zs (lI ys i) i 0 0,.normal,AF w v ys r i zs (lI ys i) i (CL w v (lI ys i))⟩)])
  (fun i zs _ h=>aL.cons (by kernel_rfl) (by rw[OR];exact a15 w v ys r i zs (lI ys i) i hv hs hw hwf rfl (MX hyf i)) aL.nil)
  (fun i zs hi h=>⟨CI hyf h, ?_⟩)
  (fun zs h=>⟨_,_,⟨_,_,PW w v ys r r zs r 0 [],by simp,by simp⟩⟩)) [] ⟨rfl,rfl⟩
 ·have e:=PV w v ys r i zs i (CL w v (lI ys i))
  rw[aF (by omega) (by omega),Int.toNat_natCast]at e
  refine⟨_,_,⟨_,_,e, ?_,by simp⟩⟩
  simp only[Bool.true_and,rpS,Bool.and_true,Bool.and_eq_true,decide_eq_true_eq]
  omega
theorem bC (l:List Int) (a b:Nat) (x d:Int):(l.set a x).getD b d=if a=b∧a<l.length then x else l.getD b d:=by
 rw[List.getD_eq_getElem?_getD,List.getElem?_set]
 by_cases h:a=b
 ·subst h
  by_cases h2:a<l.length
  ·simp[h2]
  ·simp[h2,List.getD_eq_getElem?_getD,List.getElem?_eq_none (Nat.le_of_not_lt h2)]
 ·simp[h,List.getD_eq_getElem?_getD]
theorem fgs {l:List Int} {a b:Nat} {x:Int} (hl: ∀b,fok (l.getD b 0)=true) (hx:fok x=true):fok ((l.set a x).getD b 0)=true:=by
 rw[bC];split
 ·exact hx
 ·exact hl b
theorem dG {l:List Int} {a:Nat} {x:Int} (hl:aD l=true) (hx:fok x=true):aD (l.set a x)=true:=by
 simp only[aD,List.all_eq_true]at hl⊢
 intro y hy
 rcases List.mem_or_eq_of_mem_set hy with h|h
 ·exact hl y h
 ·rw[h];exact hx
theorem LS {zs:List Int} (h:aD zs=true) (i j:Nat) (at_:Int):aD (lN zs i at_ j)=true:=
 dG (dG (dG (dG h (cB _)) (cB _)) (cB _)) (cB _)
theorem LT {zs:List Int} (h:aD zs=true) (i j:Nat) (at_:Int):aD (n6 zs i at_ j)=true:=dG (LS h i j at_) (cB _)
theorem kT (zs:List Int) (i j:Nat) (at_:Int):(n6 zs i at_ j).length=zs.length:=by simp[n6,lN,N6]
def jJ (i:Nat) (at_:Int) (j:Nat) (zs:List Int):List Int:=bif ((j:Int)!=(i:Int))&&(elC zs at_ j !=0)then n6 zs i at_ j else zs
def wH (n i:Nat) (at_:Int) (zs:List Int):List Int:=bI (jJ i at_) n 0 zs
theorem B1 {n:Nat} {i:Nat} {at_:Int} {j:Nat} {zs:List Int} (h:zs.length=n*5∧aD zs=true):(jJ i at_ j zs).length=n*5∧aD (jJ i at_ j zs)=true:=by
 unfold jJ
 cases ((j:Int)!=(i:Int))&&(elC zs at_ j !=0)
 ·exact h
 ·exact⟨by rw[cond_true,kT];exact h.1,LT h.2 i j at_⟩
theorem sZ {n:Nat} {i:Nat} {at_:Int} {zs:List Int} (h:zs.length=n*5∧aD zs=true):(wH n i at_ zs).length=n*5∧aD (wH n i at_ zs)=true:=
 aY (fun _ zs=>zs.length=n*5∧aD zs=true) n zs h fun k b _ h=>B1 h
theorem a17 (n:Nat) (zs:List Int) (i:Nat) (at_:Int) (hn:n≤8) (hi:i<n) (ha:bet at_ 0 3=true) (hz:zs.length=n*5) (hf:aD zs=true):
  aP none Tryz.prog 0 (.block 6 (.loop (aC 6 (aB c9)))) (lJ n zs i at_ 0) fun e t=>e=.normal∧t=AG n (wH n i at_ zs) i:=by
 have ha':=bQ.1 ha
 refine aP.count (ro:=none) hT t20 bE n (fun _ zs=>zs.length=n*5∧aD zs=true) (fun j zs=>lJ n zs i at_ j) (fun zs=>AG n zs i) (jJ i at_) (aE c9 6) (aG c9 6)
  (fun _ _=>[]) (fun _ _ _ _=>aL.nil) (fun j zs hj h=>⟨B1 h, ?_⟩) (fun zs h=>⟨_,_,⟨_,_,Q4 n zs i at_ n,by simp,by simp⟩⟩) zs ⟨hz,hf⟩
 obtain⟨h1,h2⟩:=h
 unfold jJ
 cases c1:((j:Int)!=(i:Int))with
 |false=>
  have e:=Q3 n zs i at_ j
  rw[aF (by omega) (by omega),Int.toNat_natCast]at e
  refine⟨_,_,⟨_,_,e, ?_,by simp⟩⟩
  rw[c1]
  simp only[Bool.true_and,rpS,Bool.and_true,Bool.not_false,Bool.and_eq_true,decide_eq_true_eq]
  omega
 |true=>
  cases c2:(elC zs at_ j !=0)with
  |false=>
   have e:=Q2 n zs i at_ j
   rw[aF (by omega) (by omega),Int.toNat_natCast]at e
   refine⟨_,_,⟨_,_,e, ?_,by simp⟩⟩
   unfold elC at c2
   rw[c1,c2]
   simp only[Bool.true_and,rpS,Bool.and_true,Bool.not_false,Bool.and_eq_true,decide_eq_true_eq,cond_true]
   omega
  |true=>
   have e:=Q1 n zs i at_ j
   rw[aF (by omega) (by omega),Int.toNat_natCast,Int.toNat_natCast]at e
   refine⟨_,_,⟨_,_,e, ?_,by simp⟩⟩
   unfold elC at c2
   rw[c1,c2]
   simp (maxDischargeDepth:=12) only[aU h2,fgs,cB,implies_true,List.length_set,Bool.true_and,rpS,Bool.and_true,Bool.not_false,Bool.and_eq_true,decide_eq_true_eq,cond_true,true_and,and_true]
   omega
def lG (n i:Nat) (zs:List Int):List Int:=wH n i (ld5 zs i) zs
def a4Q (n:Nat) (zs:List Int):List Int:=bI (lG n) n 0 zs
def hS (n:Nat):Nat→Nat→List Int→Bool
 |0,_,_=>true
 |f+1,i,zs=>bet (ld5 zs i) 0 3&&hS n f (i+1) (lG n i zs)
def MO (n:Nat) (zs:List Int):Bool:=hS n n 0 zs
theorem a16 (n:Nat) (zs:List Int) (hn:n≤8) (hz:zs.length=n*5) (hf:aD zs=true) (hr:MO n zs=true):
  aP none Tryz.prog 0 (.block 4 (.loop (aC 4 (aB c9)))) (pY n zs 0) fun e t=>e=.normal∧t=FT n (a4Q n zs):=by
 refine(aP.count (ro:=none) hT t20 bE n (fun i zs=>(zs.length=n*5∧aD zs=true)∧hS n (n-i) i zs=true) (fun i zs=>pY n zs i) (fun zs=>FT n zs) (lG n) (aE c9 4) (aG c9 4)
  (fun i zs=>[(6,⟨aE c9 6,lJ n zs i (ld5 zs i) 0,.normal,AG n (lG n i zs) i⟩)]) (fun i zs hi h=> ?_) (fun i zs hi h=> ?_) (fun zs h=> ?_)) zs ⟨⟨hz,hf⟩,hr⟩
 ·obtain⟨h1,h2⟩:=h
  rw[show n-i=(n-(i+1))+1 from by omega]at h2
  simp only[hS,Bool.and_eq_true,rpS]at h2
  exact aL.cons (by kernel_rfl) (by rw[OS];exact a17 n zs i (ld5 zs i) hn hi h2.1 h1.1 h1.2) aL.nil
 ·obtain⟨h1,h2⟩:=h
  rw[show n-i=(n-(i+1))+1 from by omega]at h2
  simp only[hS,Bool.and_eq_true,rpS]at h2
  refine⟨⟨sZ h1,h2.2⟩, ?_⟩
  have e:=PZ n zs (lG n i zs) i
  rw[aF (by omega) (by omega),Int.toNat_natCast]at e
  refine⟨_,_,⟨_,_,e, ?_,by simp⟩⟩
  simp only[Bool.true_and,rpS,Bool.and_true,Bool.and_eq_true,decide_eq_true_eq]
  omega
 ·have e:=Q0 n zs zs n []
  exact⟨_,_,⟨_,_,e,by simp,by simp⟩⟩
end
section
def vS (zs:List Int) (i:Nat) (out:List Int):List Int:=out.set (ld5 zs i).toNat (zs.getD (i*5+4) 0)
def vR (zs:List Int) (n:Nat):List Int:=bI (vS zs) n 0 [0,0,0,0]
def MA (zs:List Int) (n:Nat):Bool:=cN (fun i=>bet (ld5 zs i) 0 3) n
theorem MI (zs:List Int) (n:Nat):(vR zs n).length=4:=aY (step:=vS zs) (fun _ o=>o.length=4) n [0,0,0,0] rfl fun k b _ h=>by simp[vS,h]
theorem MH {zs:List Int} (h:aD zs=true) (n:Nat):aD (vR zs n)=true:=aY (step:=vS zs) (fun _ o=>aD o=true) n [0,0,0,0] rfl fun k b _ hb=>dG hb (aU h _)
theorem a18 (n:Nat) (zs:List Int) (hn:n≤8) (hz:zs.length=n*5) (hl:MA zs n=true):
  aP none Tryz.prog 0 (.block 8 (.loop (aC 8 (aB c9)))) (pZ n zs [0,0,0,0] 0) fun e t=>e=.normal∧t=FU (vR zs n):=by
 refine aP.count (ro:=none) hT t20 bE n (fun _ o=>o.length=4) (fun i o=>pZ n zs o i) (fun o=>FU o) (vS zs) (aE c9 8) (aG c9 8)
  (fun _ _=>[]) (fun _ _ _ _=>aL.nil) (fun i o hi h=>⟨by simp[vS,h], ?_⟩) (fun o h=>⟨_,_,⟨_,_,Q6 n zs o n,by simp,by simp⟩⟩) [0,0,0,0] rfl
 have hb:=bQ.1 (aX hl i hi)
 have e:=Q5 n zs o i
 rw[aF (by omega) (by omega),Int.toNat_natCast]at e
 refine⟨_,_,⟨_,_,e, ?_,by simp⟩⟩
 simp only[Bool.true_and,rpS,Bool.and_true,Bool.and_eq_true,decide_eq_true_eq]
 omega
def spK (k:Int) (v:List Int):List Int×List Int:=eT (gC k v) v.length
def CG (k:Int) (w v:List Int):List Int:=lX w v (spK k v).1 (spK k v).2.length
def eF (k:Int) (w v:List Int):List Int:=a4Q (spK k v).2.length (CG k w v)
def eR (k:Int) (w v:List Int):List Int:=vR (eF k w v) (spK k v).2.length
def dU (k:Int) (w v:List Int):Bool:=MO (spK k v).2.length (CG k w v)&&MA (eF k w v) (spK k v).2.length
def TT (l:List Int):List aI:=[.int .i64 (l.getD 0 0),.int .i64 (l.getD 1 0),.int .i64 (l.getD 2 0),.int .i64 (l.getD 3 0)]
noncomputable def a8I (k:Int) (w v:List Int):List (Nat×LC):=
  [(0,⟨aE c9 0,pX w v (spK k v).1 (spK k v).2.length 0 [] 0,.normal,FS (CG k w v) (spK k v).2.length⟩),
   (4,⟨aE c9 4,pY (spK k v).2.length (CG k w v) 0,.normal,FT (spK k v).2.length (eF k w v)⟩),
   (8,⟨aE c9 8,pZ (spK k v).2.length (eF k w v) [0,0,0,0] 0,.normal,FU (eR k w v)⟩)]
def Y0 (k:Int) (w v:List Int):=bt2 (spK k v) (eR k w v) (P:=fun q0 q1=>(aJ tt (aH T20) (a8I k w v) 100 c9 [.c (.int .i64 k),.c (.view none (.ints .i64 w) w.length 1 none),.c (.view none (.ints .i64 v) v.length 1 none)] []) []=
  some ⟨.agg [.int .i64 (q1.getD 0 0),.int .i64 (q1.getD 1 0),.int .i64 (q1.getD 2 0),.int .i64 (q1.getD 3 0)],[],(decide (v.length≤274877906944)&&(bet k 1 2&&(bD v&&(decide (v.length*4=(gC k v).length)&&(decide (v.length≤8)&&(aD (gC k v)&&((decide (4≤q1.length))&&true))))))),[pX w v q0.1 q0.2.length 0 [] 0=pX w v q0.1 q0.2.length 0 [] 0,pY q0.2.length (CG k w v) 0=pY q0.2.length (CG k w v) 0,pZ q0.2.length (eF k w v) [0,0,0,0] 0=pZ q0.2.length (eF k w v) [0,0,0,0] 0]⟩) (by kernel_rfl)
def y0:aO:=fun args h=>
 match args,h with
 |[.c (.int .i64 k),.c (.view _ (.ints .i64 w) n 1 _),.c (.view _ (.ints .i64 v) n2 1 _)],[]=>
  some (.agg (TT (eR k w v)),[],[decide (v.length≤8),bet k 1 2,bD v,decide (w.length=8),aD w,dU k w v])
 |_,_=>none
theorem xG (n:Nat) (xs:List Int): ∀(f i:Nat) (s:List Int×List Int),(s.1.length=s.2.length*12∧s.2.length≤i∧(aD xs=true→aD s.1=true))→
  (fT xs f i s).1.length=(fT xs f i s).2.length*12∧(fT xs f i s).2.length≤i+f∧(aD xs=true→aD (fT xs f i s).1=true)
 |0,i,s,h=>h
 |f+1,i,s,h=>by
  simp only[fT]
  have:=xG n xs f (i+1) (bif decide (ld4 (KK xs s.1 s.2.length i)<0)then s else(s.1++nP (KK xs s.1 s.2.length i),s.2++[(i:Int)])) ?_
  ·rw[show i+(f+1)=i+1+f from by omega];exact this
  ·obtain⟨h1,h2,h3⟩:=h
   cases decide (ld4 (KK xs s.1 s.2.length i)<0)
   ·refine⟨by simp[BL,h1];omega,by simp;omega,fun hx=>eC (h3 hx) (BK _)⟩
   ·exact⟨h1,by rw[cond_true];omega,h3⟩
theorem zO {k:Int} {v:List Int} (hk:bet k 1 2=true) (hv:bD v=true):(spK k v).1.length=(spK k v).2.length*12∧(spK k v).2.length≤v.length∧aD (spK k v).1=true:=by
 have:=xG v.length (gC k v) v.length 0 ([],[]) ⟨rfl,by simp,fun _=>rfl⟩
 exact⟨this.1,by have:=this.2.1;unfold spK eT;omega,this.2.2 (pF hk hv)⟩
theorem aAL:aT Tryz.prog 221 y0:=by
 intro args h res h' o hnorm he ho
 unfold y0 at he
 split at he
 case h_2=>cases he
 rename_i k nl w n cap nl2 v n2 cap2
 simp only[Option.some.injEq,Prod.mk.injEq]at he
 obtain⟨rfl,rfl,rfl⟩:=he
 simp only[List.mem_cons,List.not_mem_nil,or_false,forall_eq_or_imp,forall_eq,decide_eq_true_eq]at ho
 obtain⟨o1,o2,o3,o4,o5,o6⟩:=ho
 simp only[b8,AV.norm,bA,aI.norm,Con.size,List.cons.injEq,AV.c.injEq,AV.agg.injEq,aI.view.injEq,aN,true_and,and_true]at hnorm
 obtain⟨⟨rfl,rfl,rfl⟩,rfl,rfl,rfl⟩:=hnorm
 obtain⟨s1,s2,s3⟩:=zO o2 o3
 simp only[dU,Bool.and_eq_true,rpS]at o6
 have t1:=CH (w:=w) (v:=v) s3 (spK k v).2.length
 have t2:(eF k w v).length=(spK k v).2.length*5∧aD (eF k w v)=true:=aY (step:=lG (spK k v).2.length) (fun _ zs=>zs.length=(spK k v).2.length*5∧aD zs=true) _ _ t1 fun i zs _ h=>sZ h
 refine mo (fn:=c9) t20 (Y0 k w v) (by simp[o1,o2,o3,pF,x9,eR,MI];omega) (hlc:=(fun cc hc=>aL.cons (c:=cc) (by cases hc;kernel_rfl) (by cases hc;exact a0Z w v (spK k v).1 (spK k v).2.length o1 o3 o4 o5 (by omega) s1 s3)
   (aL.cons (by cases hc;kernel_rfl) (by cases hc;exact a16 _ _ (by omega) t1.1 t1.2 o6.1) (aL.cons (by cases hc;kernel_rfl) (by cases hc;exact a18 _ _ (by omega) t2.1 o6.2) aL.nil))))
end
end Go.Proofs.YtdnfojanjejdgaaGreat.Am
