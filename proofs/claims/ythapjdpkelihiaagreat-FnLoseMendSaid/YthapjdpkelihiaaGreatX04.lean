/- DERIVED. Part 4 of the proof: C28, C29, C30, C31, C32, C33, P1. No statement of the program is proved here. -/
import Derived.Test.YthapjdpkelihiaaGreatX03
set_option linter.unusedSimpArgs false
set_option linter.unusedVariables false
set_option linter.unusedSectionVars false
namespace Go.Proofs.YthapjdpkelihiaaGreat.Am
section
noncomputable def uK (k:Int) (n1 n2 n3:Nat) (nl1 nl2 nl3:Option Bool) (cap1 cap2 cap3:Option Nat) (a b:List Int) (c:List Bool) (vs:Int) (n:Nat) (v:List Int) (i j:Int):St:=
 bA f141.ntmps [(0,.c (.sl 0 0 n 1 none)),(1,.c (.fn 155 [.ptr 1 0 0 0,.ptr 2 0 0 0])),(5,.c (.int .i64 i)),(6,.c (.int .i64 j))]
  [.live (.ints .i64 v),.live (.cells [.int .i64 k,.view nl1 (.ints .i64 a) n1 1 cap1,.view nl2 (.ints .i64 b) n2 1 cap2,.view nl3 (.bools c) n3 1 cap3]),.live (.ints .i64 [vs])]
noncomputable def L3 (k:Int) (n1 n2 n3:Nat) (nl1 nl2 nl3:Option Bool) (cap1 cap2 cap3:Option Nat) (a b:List Int) (c:List Bool) (vs:Int) (n:Nat) (v:List Int) (i:Int):St:=
 bA f141.ntmps [(0,.c (.sl 0 0 n 1 none)),(5,.c (.int .i64 i))]
  [.live (.ints .i64 v),.live (.cells [.int .i64 k,.view nl1 (.ints .i64 a) n1 1 cap1,.view nl2 (.ints .i64 b) n2 1 cap2,.view nl3 (.bools c) n3 1 cap3]),.live (.ints .i64 [vs])]
theorem SI (k:Int) (n1 n2 n3:Nat) (nl1 nl2 nl3:Option Bool) (cap1 cap2 cap3:Option Nat) (a b:List Int) (c:List Bool) (vs:Int) (n:Nat) (v:List Int) (i j:Int):aH 3 (aA f141 0) (aD f141 0) (aK tt (aB T28) ([]) 3 100 (a6 0 (a7 f141)) (uK k n1 n2 n3 nl1 nl2 nl3 cap1 cap2 cap3 a b c vs n v i j) [(0,true),(0,true)])=
  some (.normal,(decide (j<(↑n:Int))&&(decide (0≤j)&&(decide (j<(↑n:Int))&&(decide (j.toNat<v.length)&&((decide (0≤v.getD j.toNat 0)&&(decide (v.getD j.toNat 0<(↑n2:Int))&&(decide ((v.getD j.toNat 0).toNat<b.length)&&true)))&&((!b.getD (v.getD j.toNat 0).toNat 0 !=vs)&&(decide (0≤i)&&(decide (i<(↑n:Int))&&((decide (i.toNat<v.length))&&true))))))))),[],uK k n1 n2 n3 nl1 nl2 nl3 cap1 cap2 cap3 a b c vs n (v.set i.toNat (v.getD j.toNat 0)) (IntKind.i64.wrap (i+1)) (IntKind.i64.wrap (j+1))):=by kernel_rfl
theorem SJ (k:Int) (n1 n2 n3:Nat) (nl1 nl2 nl3:Option Bool) (cap1 cap2 cap3:Option Nat) (a b:List Int) (c:List Bool) (vs:Int) (n:Nat) (v:List Int) (i j:Int):aH 3 (aA f141 0) (aD f141 0) (aK tt (aB T28) ([]) 3 100 (a6 0 (a7 f141)) (uK k n1 n2 n3 nl1 nl2 nl3 cap1 cap2 cap3 a b c vs n v i j) [(0,true),(0,false)])=
  some (.normal,(decide (j<(↑n:Int))&&(decide (0≤j)&&(decide (j<(↑n:Int))&&(decide (j.toNat<v.length)&&((decide (0≤v.getD j.toNat 0)&&(decide (v.getD j.toNat 0<(↑n2:Int))&&(decide ((v.getD j.toNat 0).toNat<b.length)&&true)))&&((!!b.getD (v.getD j.toNat 0).toNat 0 !=vs)&&true)))))),[],uK k n1 n2 n3 nl1 nl2 nl3 cap1 cap2 cap3 a b c vs n (v) (i) (IntKind.i64.wrap (j+1))):=by kernel_rfl
theorem SK (k:Int) (n1 n2 n3:Nat) (nl1 nl2 nl3:Option Bool) (cap1 cap2 cap3:Option Nat) (a b:List Int) (c:List Bool) (vs:Int) (n:Nat) (v:List Int) (i j:Int):aH 3 (aA f141 0) (aD f141 0) (aK tt (aB T28) ([]) 3 100 (a6 0 (a7 f141)) (uK k n1 n2 n3 nl1 nl2 nl3 cap1 cap2 cap3 a b c vs n v i j) [(0,false)])=
  some (.exit 0,((!decide (j<(↑n:Int)))&&true),[],L3 k n1 n2 n3 nl1 nl2 nl3 cap1 cap2 cap3 a b c vs n (v) (i)):=by kernel_rfl
theorem OE (k:Int) (n1 n2 n3:Nat) (nl1 nl2 nl3:Option Bool) (cap1 cap2 cap3:Option Nat) (a b:List Int) (c:List Bool) (vs:Int) (n:Nat) (v:List Int):aG tt (aB T28) ([]) 100 f141 [.c (.sl 0 0 n 1 none),.c (.fn 155 [.ptr 1 0 0 0,.ptr 2 0 0 0])] [.live (.ints .i64 v),.live (.cells [.int .i64 k,.view nl1 (.ints .i64 a) n1 1 cap1,.view nl2 (.ints .i64 b) n2 1 cap2,.view nl3 (.bools c) n3 1 cap3]),.live (.ints .i64 [vs])] [(0,true)]=
  some ⟨.c (.sl 0 0 n 1 none),[.live (.ints .i64 v),.live (.cells [.int .i64 k,.view nl1 (.ints .i64 a) n1 1 cap1,.view nl2 (.ints .i64 b) n2 1 cap2,.view nl3 (.bools c) n3 1 cap3]),.live (.ints .i64 [vs])],(decide (v.length≤274877906944)&&(decide (v.length=n)&&(dC v b.length&&(decide (n2=b.length)&&((cV (fun x=>b.getD x.toNat 0 !=vs) v== -1)&&true))))),[]⟩:=by kernel_rfl
theorem UW (k:Int) (n1 n2 n3:Nat) (nl1 nl2 nl3:Option Bool) (cap1 cap2 cap3:Option Nat) (a b:List Int) (c:List Bool) (vs:Int) (n:Nat) (v v':List Int) (i:Int):aG tt (aB T28) ([(0,⟨aA f141 0,uK k n1 n2 n3 nl1 nl2 nl3 cap1 cap2 cap3 a b c vs n v (cV (fun x=>b.getD x.toNat 0 !=vs) v) (IntKind.i64.wrap (cV (fun x=>b.getD x.toNat 0 !=vs) v+1)),.normal,L3 k n1 n2 n3 nl1 nl2 nl3 cap1 cap2 cap3 a b c vs n v' i⟩)]) 100 f141 [.c (.sl 0 0 n 1 none),.c (.fn 155 [.ptr 1 0 0 0,.ptr 2 0 0 0])] [.live (.ints .i64 v),.live (.cells [.int .i64 k,.view nl1 (.ints .i64 a) n1 1 cap1,.view nl2 (.ints .i64 b) n2 1 cap2,.view nl3 (.bools c) n3 1 cap3]),.live (.ints .i64 [vs])] [(0,false)]=
  some ⟨.c (.sl 0 0 i.toNat 1 none),[.live (.ints .i64 (List.take i.toNat v'++(List.replicate (n-i.toNat) 0++List.drop (i.toNat+(n-i.toNat)) v'))),.live (.cells [.int .i64 k,.view nl1 (.ints .i64 a) n1 1 cap1,.view nl2 (.ints .i64 b) n2 1 cap2,.view nl3 (.bools c) n3 1 cap3]),.live (.ints .i64 [vs])],(decide (v.length≤274877906944)&&(decide (v.length=n)&&(dC v b.length&&(decide (n2=b.length)&&((!cV (fun x=>b.getD x.toNat 0 !=vs) v== -1)&&(decide (0≤i)&&(decide (i≤(↑n:Int))&&(decide (i.toNat+(n-i.toNat)≤v'.length)&&(decide (0≤i)&&((decide (i≤(↑n:Int)))&&true)))))))))),[uK k n1 n2 n3 nl1 nl2 nl3 cap1 cap2 cap3 a b c vs n v (cV (fun x=>b.getD x.toNat 0 !=vs) v) (IntKind.i64.wrap (cV (fun x=>b.getD x.toNat 0 !=vs) v+1))=uK k n1 n2 n3 nl1 nl2 nl3 cap1 cap2 cap3 a b c vs n v (cV (fun x=>b.getD x.toNat 0 !=vs) v) (IntKind.i64.wrap (cV (fun x=>b.getD x.toNat 0 !=vs) v+1))]⟩:=by kernel_rfl
theorem mJ {q:Int→Bool} {v:List Int}: ∀ {f i j:Nat},dE q v f i=some j→i≤j∧j<i+f∧q (v.getD j 0)=true∧ ∀k,i≤k→k<j→q (v.getD k 0)=false
 |0,i,j,h=>by simp[dE]at h
 |f+1,i,j,h=>by
  simp only[dE]at h
  cases hq:q (v.getD i 0)with
  |true=>
   rw[hq,cond_true]at h
   injection h with h;subst h
   exact⟨Nat.le_refl _,by omega,hq,fun k h1 h2=>by omega⟩
  |false=>
   rw[hq,cond_false]at h
   obtain⟨h1,h2,h3,h4⟩:=mJ h
   refine⟨by omega,by omega,h3,fun k h5 h6=> ?_⟩
   by_cases e:k=i
   ·subst e;exact hq
   ·exact h4 k (by omega) h6
theorem jH {q:Int→Bool} {v:List Int}: ∀ {f i:Nat},dE q v f i=none→ ∀k,i≤k→k<i+f→q (v.getD k 0)=false
 |0,i,h,k,h1,h2=>by omega
 |f+1,i,h,k,h1,h2=>by
  simp only[dE]at h
  cases hq:q (v.getD i 0)with
  |true=>rw[hq,cond_true]at h;cases h
  |false=>
   rw[hq,cond_false]at h
   by_cases e:k=i
   ·subst e;exact hq
   ·exact jH h k (by omega) (by omega)
theorem gT {q:Int→Bool} {v:List Int}: ∀(n:Nat),n≤v.length→(∀k,k<n→q (v.getD k 0)=false)→(v.take n).filter (fun x=> !q x)=v.take n:=by
 intro n hn h
 refine List.filter_eq_self.2 fun x hx=> ?_
 obtain⟨k,hk⟩:=List.getElem?_of_mem hx
 rw[List.getElem?_take]at hk
 split at hk
 ·rename_i h1
  have:=h k h1
  rw[List.getD_eq_getElem?_getD,hk]at this
  simpa using this
 ·cases hk
theorem j8 {v:List Int} {n:Nat} (h:n<v.length):v.take (n+1)=v.take n++[v.getD n 0]:=by
 rw[List.take_add_one,List.getD_eq_getElem?_getD,List.getElem?_eq_getElem h];rfl
def n9 (q:Int→Bool) (j0:Nat) (t:Nat) (s:List Int×Nat):List Int×Nat:=bif q (s.1.getD (j0+t) 0)then s else(s.1.set s.2 (s.1.getD (j0+t) 0),s.2+1)
def B2 (q:Int→Bool) (v:List Int) (j0:Nat) (t:Nat) (s:List Int×Nat):Prop:=
 s.1.length=v.length∧s.2<j0+t∧(∀k,j0+t≤k→s.1.getD k 0=v.getD k 0)∧s.1.take s.2=(v.take (j0+t)).filter (fun x=> !q x)
theorem iR {q:Int→Bool} {v:List Int} {j0 t:Nat} {s:List Int×Nat} (h:B2 q v j0 t s) (ht:j0+t<v.length):B2 q v j0 (t+1) (n9 q j0 t s):=by
 obtain⟨h1,h2,h3,h4⟩:=h
 have hx:=h3 (j0+t) (Nat.le_refl _)
 unfold n9
 have ht':v.take (j0+(t+1))=v.take (j0+t)++[v.getD (j0+t) 0]:=j8 ht
 cases hq:q (s.1.getD (j0+t) 0)with
 |true=>
  rw[cond_true]
  refine⟨h1,by omega,fun k hk=>h3 k (by omega), ?_⟩
  rw[ht',List.filter_append,h4]
  rw[hx]at hq
  rw[List.filter_cons,hq];simp
 |false=>
  rw[cond_false]
  refine⟨by simp[h1],by dsimp only;omega,fun k hk=> ?_, ?_⟩
  ·dsimp only
   rw[aX,if_neg (by omega)]
   exact h3 k (by omega)
  ·dsimp only
   rw[j8 (by rw[List.length_set];omega),List.take_set,List.set_eq_of_length_le (by rw[List.length_take];omega),aX,if_pos ⟨rfl,by omega⟩,h4,ht',List.filter_append]
   rw[hx]at hq
   rw[hx,List.filter_cons,hq];simp
theorem l0 {q:Int→Bool} {v:List Int} {i:Nat} (h:dV q v=some i):i<v.length∧B2 q v (i+1) 0 (v,i):=by
 obtain⟨h1,h2,h3,h4⟩:=mJ h
 have hi:i<v.length:=by omega
 refine⟨hi,rfl,by dsimp only;omega,fun k _=>rfl, ?_⟩
 dsimp only
 rw[Nat.add_zero,j8 hi,List.filter_append,gT i (by omega) (fun k hk=>h4 k (by omega) hk)]
 simp only[List.filter_cons,h3,List.filter_nil,Bool.not_true,Bool.false_eq_true,if_false,List.append_nil]
theorem a5S (k:Int) (n1 n2 n3:Nat) (nl1 nl2 nl3:Option Bool) (cap1 cap2 cap3:Option Nat) (a b:List Int) (c:List Bool) (vs:Int) (v:List Int) (i0:Nat) (hl:v.length≤274877906944) (hp:dC v b.length=true) (h2:n2=b.length) (h0:dV (fun x=>b.getD x.toNat 0 !=vs) v=some i0):
  aW Tryz.prog 3 (.block 0 (.loop (a6 0 (a7 f141)))) (uK k n1 n2 n3 nl1 nl2 nl3 cap1 cap2 cap3 a b c vs v.length v i0 (i0+1:Nat)) fun e t=>e=.normal∧
   t=L3 k n1 n2 n3 nl1 nl2 nl3 cap1 cap2 cap3 a b c vs v.length (bP (n9 (fun x=>b.getD x.toNat 0 !=vs) (i0+1)) (v.length-(i0+1)) 0 (v,i0)).1 (bP (n9 (fun x=>b.getD x.toNat 0 !=vs) (i0+1)) (v.length-(i0+1)) 0 (v,i0)).2:=by
 obtain⟨g1,g2⟩:=l0 h0
 refine aW.count hT t28 bM (v.length-(i0+1)) (B2 (fun x=>b.getD x.toNat 0 !=vs) v (i0+1)) (fun t s=>uK k n1 n2 n3 nl1 nl2 nl3 cap1 cap2 cap3 a b c vs v.length s.1 s.2 (i0+1+t:Nat)) (fun s=>L3 k n1 n2 n3 nl1 nl2 nl3 cap1 cap2 cap3 a b c vs v.length s.1 s.2) (n9 (fun x=>b.getD x.toNat 0 !=vs) (i0+1)) (aA f141 0) (aD f141 0)
  (fun _ _=>[]) (fun _ _ _ _=>aF.nil) (fun t s ht h=>⟨iR h (by omega), ?_⟩) (fun s h=> ?_) (v,i0) g2
 ·have hn:=iR h (by omega)
  obtain⟨d1,d2,d3,d4⟩:=h
  have hpl:=hJ hp (i:=i0+1+t) (by omega)
  have hx:=d3 (i0+1+t) (Nat.le_refl _)
  unfold n9
  cases hq:b.getD (s.1.getD (i0+1+t) 0).toNat 0 !=vs with
  |true=>
   have e:=SJ k n1 n2 n3 nl1 nl2 nl3 cap1 cap2 cap3 a b c vs v.length s.1 s.2 (i0+1+t:Nat)
   rw[aE (by omega) (by omega),Int.toNat_natCast]at e
   dsimp only
   rw[hq]
   refine⟨_,_,⟨_,_,e, ?_,by simp⟩⟩
   simp only[hq,Bool.not_true,Bool.not_false,Bool.true_and,Bool.and_true,Bool.and_eq_true,decide_eq_true_eq]
   omega
  |false=>
   have e:=SI k n1 n2 n3 nl1 nl2 nl3 cap1 cap2 cap3 a b c vs v.length s.1 s.2 (i0+1+t:Nat)
   rw[aE (i:=((i0+1+t:Nat):Int)+1) (by omega) (by omega),aE (i:=(s.2:Int)+1) (by omega) (by omega),Int.toNat_natCast,Int.toNat_natCast]at e
   dsimp only
   rw[hq]
   refine⟨_,_,⟨_,_,e, ?_,by simp⟩⟩
   simp only[hq,Bool.not_false,Bool.true_and,Bool.and_true,Bool.and_eq_true,decide_eq_true_eq]
   omega
 ·rw[show i0+1+(v.length-(i0+1))=v.length from by omega]
  exact⟨_,_,⟨_,_,SK k n1 n2 n3 nl1 nl2 nl3 cap1 cap2 cap3 a b c vs v.length s.1 s.2 v.length,by simp,by simp⟩⟩
def G6:aQ:=fun args h=>
 match args,h with
 |[.c (.sl 0 0 n 1 none),.c (.fn 155 [.ptr 1 0 0 0,.ptr 2 0 0 0])],[.live (.ints .i64 v),.live (.cells [.int .i64 k,.view nl1 (.ints .i64 a) n1 1 cap1,.view nl2 (.ints .i64 b) n2 1 cap2,.view nl3 (.bools c) n3 1 cap3]),.live (.ints .i64 [vs])]=>
  some (.c (.sl 0 0 (v.filter fun x=> !(b.getD x.toNat 0 !=vs)).length 1 none),[.live (.ints .i64 (v.filter fun x=> !(b.getD x.toNat 0 !=vs))),.live (.cells [.int .i64 k,.view nl1 (.ints .i64 a) n1 1 cap1,.view nl2 (.ints .i64 b) n2 1 cap2,.view nl3 (.bools c) n3 1 cap3]),.live (.ints .i64 [vs])],[decide (v.length≤274877906944),decide (v.length=n),dC v b.length,decide (n2=b.length)])
 |_,_=>none
theorem a70:aS Tryz.prog 154 G6:=by
 intro args h res h' o he ho
 unfold G6 at he
 split at he
 case h_2=>cases he
 rename_i n v k nl1 a n1 cap1 nl2 b n2 cap2 nl3 c n3 cap3 vs
 simp only[Option.some.injEq,Prod.mk.injEq]at he
 obtain⟨rfl,rfl,rfl⟩:=he
 simp only[List.mem_cons,List.not_mem_nil,or_false,forall_eq_or_imp,forall_eq,decide_eq_true_eq]at ho
 obtain⟨o1,o2,o3,o4⟩:=ho
 subst o2
 cases hx:dV (fun x=>b.getD x.toNat 0 !=vs) v with
 |none=>
  have hL:cV (fun x=>b.getD x.toNat 0 !=vs) v= -1:=by unfold cV;rw[hx]
  have hf:(v.filter fun x=> !(b.getD x.toNat 0 !=vs))=v:=by
   have:=gT (q:=(fun x=>b.getD x.toNat 0 !=vs)) (v:=v) v.length (Nat.le_refl _) (fun k hk=>jH hx k (by omega) (by omega))
   rw[List.take_length]at this;exact this
  rw[hf]
  exact a5 t28 (fn:=f141) (by kernel_rfl) (by kernel_rfl) (OE k n1 n2 n3 nl1 nl2 nl3 cap1 cap2 cap3 a b c vs v.length v) (by rw[hL];simp[o1,o3,o4]) (by simp) (fun c _=>aF.nil)
 |some i0=>
  have hL:cV (fun x=>b.getD x.toNat 0 !=vs) v=i0:=by unfold cV;rw[hx]
  obtain⟨g1,g2⟩:=l0 hx
  have g:=a5S k n1 n2 n3 nl1 nl2 nl3 cap1 cap2 cap3 a b c vs v i0 o1 o3 o4 hx
  have fin:=bH (step:=n9 (fun x=>b.getD x.toNat 0 !=vs) (i0+1)) (B2 (fun x=>b.getD x.toNat 0 !=vs) v (i0+1)) (v.length-(i0+1)) (v,i0) g2 fun t s ht h=>iR h (by omega)
  generalize bP (n9 (fun x=>b.getD x.toNat 0 !=vs) (i0+1)) (v.length-(i0+1)) 0 (v,i0)=s at g fin
  obtain⟨d1,d2,d3,d4⟩:=fin
  rw[show i0+1+(v.length-(i0+1))=v.length from by omega]at d2 d4
  rw[List.take_length]at d4
  have hlen:(v.filter fun x=> !(b.getD x.toNat 0 !=vs)).length=s.2:=by rw[←d4,List.length_take];omega
  have e:=UW k n1 n2 n3 nl1 nl2 nl3 cap1 cap2 cap3 a b c vs v.length v s.1 s.2
  rw[hL]at e
  have hw:IntKind.i64.wrap ((i0:Int)+1)=(i0+1:Nat):=by rw[aE (by omega) (by omega)];rfl
  rw[hw,Int.toNat_natCast]at e
  have mm:=a5 (f:=154) t28 (fn:=f141) (by kernel_rfl) (by kernel_rfl) e (by
    have h3:(((i0:Int))== -1)=false:=by
     rw[beq_eq_false_iff_ne];omega
    simp only[h3,o1,o3,o4,Bool.not_false,Bool.true_and,Bool.and_true,Bool.and_eq_true,decide_eq_true_eq,true_and,and_true]
    omega) (by simp) (fun cc hc=>aF.cons (c:=cc) (by cases hc;kernel_rfl) (by cases hc;exact g) aF.nil)
  rw[hlen]
  refine mm.slots ⟨?_,cA.refl _,cA.refl _,trivial⟩
  have h6:(List.take s.2 s.1++(List.replicate (v.length-s.2) 0++List.drop (s.2+(v.length-s.2)) s.1)).take s.2=v.filter fun x=> !(b.getD x.toNat 0 !=vs):=by
   rw[List.take_append_of_le_length (by rw[List.length_take];omega),List.take_take,Nat.min_self];exact d4
  rw[←h6]
  exact cA.take _ _ _
end
section
noncomputable def T29:List bF:=[⟨154,[0,1],G6⟩]++T28
theorem e29:a8 Tryz.prog T29:=by
 refine a8.append ?_ e28
 intro e he
 simp only[List.mem_cons,List.not_mem_nil,or_false]at he
 subst he;exact a70
theorem t29:bN Tryz.prog (aB T29):=aP e29
theorem UF (k:Int) (a b:List Int) (c:List Bool) (vs:Int):aG tt (aB T29) ([]) 100 Tryz.f112 [.agg [.int .i64 k,.view none (.ints .i64 a) a.length 1 none,.view none (.ints .i64 b) b.length 1 none,.view none (.bools c) c.length 1 none],.c (.int .i64 vs)] [] []=
  some ⟨.c (.sl 0 0 (List.filter (fun x=> !b.getD x.toNat 0 !=vs) (flg c)).length 1 none),[.live (.ints .i64 (List.filter (fun x=> !b.getD x.toNat 0 !=vs) (flg c)))],(decide (c.length≤274877906944)&&(decide ((flg c).length≤274877906944)&&(decide ((flg c).length=(flg c).length)&&(dC (flg c) b.length&&((decide (b.length=b.length))&&true))))),[]⟩:=by kernel_rfl
def ofL (b:List Int) (c:List Bool) (vs:Int):List Int:=(flg c).filter fun x=> !(b.getD x.toNat 0 !=vs)
def KN:aQ:=fun args h=>
 match args,h with
 |[.agg [.int .i64 k,.view _ (.ints .i64 a) n1 1 _,.view _ (.ints .i64 b) n2 1 _,.view _ (.bools c) n3 1 _],.c (.int .i64 vs)],[]=>
  some (.c (.sl 0 0 (ofL b c vs).length 1 none),[.live (.ints .i64 (ofL b c vs))],[decide (c.length≤274877906944),decide (b.length=c.length)])
 |_,_=>none
theorem nF (bs:List Bool) (N:Nat): ∀k i,i+k≤N→dC (eG bs k i) N=true
 |0,_,_=>rfl
 |k+1,i,h=>by
  have:=nF bs N k (i+1) (by omega)
  simp only[eG]
  split
  ·simp only[dC,List.all_cons,Bool.and_eq_true,decide_eq_true_eq]
   exact⟨by omega,this⟩
  ·exact this
theorem mH (bs:List Bool):dC (flg bs) bs.length=true:=nF bs bs.length _ _ (by omega)
theorem nG (bs:List Bool):(flg bs).length≤bs.length:=vP bs _ _
theorem XV:aV Tryz.prog 112 KN:=by
 intro args h res h' o hnorm he ho
 unfold KN at he
 split at he
 case h_2=>cases he
 rename_i k nl1 a n1 cap1 nl2 b n2 cap2 nl3 c n3 cap3 vs
 simp only[Option.some.injEq,Prod.mk.injEq]at he
 obtain⟨rfl,rfl,rfl⟩:=he
 simp only[List.mem_cons,List.not_mem_nil,or_false,forall_eq_or_imp,forall_eq,decide_eq_true_eq]at ho
 obtain⟨o1,o2⟩:=ho
 simp only[bG,AV.norm,bI,aJ.norm,Con.size,List.cons.injEq,AV.c.injEq,AV.agg.injEq,aJ.view.injEq,aN,true_and,and_true]at hnorm
 obtain⟨⟨rfl,rfl,rfl⟩,⟨rfl,rfl,rfl⟩,rfl,rfl,rfl⟩:=hnorm
 have h1:=nG c
 exact a5 t29 (by kernel_rfl) (by kernel_rfl) (UF k a b c vs) (by simp[o1,o2,mH];omega) (by simp) (fun c _=>aF.nil)
theorem V7 (a:Int):aG tt (aB T29) ([]) 100 Tryz.f224 [.c (.int .i64 a)] [] []=
  some ⟨.c (.bool (a !=a)),[],true,[]⟩:=by kernel_rfl
def GK:aQ:=fun args h=>
 match args,h with
 |[.c (.int .i64 a)],[]=>
  some (.c (.bool false),[],[])
 |_,_=>none
theorem a7V:aS Tryz.prog 224 GK:=by
 intro args h res h' o he ho
 unfold GK at he
 split at he
 case h_2=>cases he
 rename_i a
 simp only[Option.some.injEq,Prod.mk.injEq]at he
 obtain⟨rfl,rfl,rfl⟩:=he
 have e:=V7 a
 rw[bne_self_eq_false]at e
 exact a5 t29 (by kernel_rfl) (by kernel_rfl) e rfl (by simp) (fun c _=>aF.nil)
noncomputable def T30:List bF:=[⟨112,[],nm KN⟩,⟨224,[],GK⟩]++T29
theorem e30:a8 Tryz.prog T30:=by
 refine a8.append ?_ e29
 intro e he
 simp only[List.mem_cons,List.not_mem_nil,or_false]at he
 rcases he with rfl|rfl
 ·exact XV.ok
 ·exact a7V
theorem t30:bN Tryz.prog (aB T30):=aP e30
theorem V5 (a b:Int):aG tt (aB T30) ([]) 100 Tryz.f205 [.c (.int .i64 a),.c (.int .i64 b)] [] []=
  some ⟨.c (.bool (decide (a<b))),[],true,[]⟩:=by kernel_rfl
def wV:aQ:=fun args h=>
 match args,h with
 |[.c (.int .i64 a),.c (.int .i64 b)],[]=>
  some (.c (.bool (decide (a<b))),[],[])
 |_,_=>none
theorem a7M:aS Tryz.prog 205 wV:=by
 intro args h res h' o he ho
 unfold wV at he
 split at he
 case h_2=>cases he
 rename_i a b
 simp only[Option.some.injEq,Prod.mk.injEq]at he
 obtain⟨rfl,rfl,rfl⟩:=he
 exact a5 t30 (by kernel_rfl) (by kernel_rfl) (V5 a b) rfl (by simp) (fun c _=>aF.nil)
noncomputable def T31:List bF:=[⟨205,[],wV⟩]++T30
theorem e31:a8 Tryz.prog T31:=by
 refine a8.append ?_ e30
 intro e he
 simp only[List.mem_cons,List.not_mem_nil,or_false]at he
 subst he;exact a7M
theorem t31:bN Tryz.prog (aB T31):=aP e31
noncomputable abbrev f166:=Tryz.f199
noncomputable def m9 (n:Nat) (v:List Int) (i:Int):St:=
 bA f166.ntmps [(0,.c (.sl 0 0 n 1 none)),(1,.c (.int .i64 0)),(2,.c (.int .i64 n)),(6,.c (.int .i64 i))] [.live (.ints .i64 v)]
noncomputable def L8 (v:List Int):St:=bA f166.ntmps [] [.live (.ints .i64 v)]
noncomputable def uM (n:Nat) (v:List Int) (i j:Int):St:=
 bA f166.ntmps [(0,.c (.sl 0 0 n 1 none)),(1,.c (.int .i64 0)),(2,.c (.int .i64 n)),(6,.c (.int .i64 i)),(7,.c (.int .i64 j))] [.live (.ints .i64 v)]
theorem NF (n:Nat) (v:List Int) (i j:Int):aH 1 (aA f166 2) (aD f166 2) (aK tt (aB T31) ([]) 1 100 (a6 2 (a7 f166)) (uM n v i j) [(0,true),(0,true)])=
  some (.normal,(decide (j>0)&&(decide (j>0)&&(decide (j>0)&&(decide (0≤j)&&(decide (j<(↑n:Int))&&(decide (j>0)&&(decide (j.toNat<v.length)&&(decide (j>0)&&(decide (j>0)&&(decide (j>0)&&(decide (j>0)&&(decide (0≤IntKind.i64.wrap (j-1))&&(decide (IntKind.i64.wrap (j-1)<(↑n:Int))&&(decide (j>0)&&(decide ((IntKind.i64.wrap (j-1)).toNat<v.length)&&(decide (j>0)&&((bif decide (j>0)then decide (v.getD j.toNat 0<v.getD (IntKind.i64.wrap (j-1)).toNat 0)else false)&&(decide (0≤IntKind.i64.wrap (j-1))&&(decide (IntKind.i64.wrap (j-1)<(↑n:Int))&&(decide ((IntKind.i64.wrap (j-1)).toNat<v.length)&&(decide (0≤j)&&(decide (j<(↑n:Int))&&(decide (j.toNat<v.length)&&(decide (0≤j)&&(decide (j<(↑n:Int))&&(decide (j.toNat<v.length)&&(decide (0≤IntKind.i64.wrap (j-1))&&(decide (IntKind.i64.wrap (j-1)<(↑n:Int))&&((decide ((IntKind.i64.wrap (j-1)).toNat<(v.set j.toNat (v.getD (IntKind.i64.wrap (j-1)).toNat 0)).length))&&true))))))))))))))))))))))))))))),[],uM n ((v.set j.toNat (v.getD (IntKind.i64.wrap (j-1)).toNat 0)).set (IntKind.i64.wrap (j-1)).toNat (v.getD j.toNat 0)) i (IntKind.i64.wrap (j-1))):=by kernel_rfl
theorem NG (n:Nat) (v:List Int) (i j:Int):aH 1 (aA f166 2) (aD f166 2) (aK tt (aB T31) ([]) 1 100 (a6 2 (a7 f166)) (uM n v i j) [(0,true),(0,false)])=
  some (.exit 2,(decide (j>0)&&(decide (j>0)&&(decide (j>0)&&(decide (0≤j)&&(decide (j<(↑n:Int))&&(decide (j>0)&&(decide (j.toNat<v.length)&&(decide (j>0)&&(decide (j>0)&&(decide (j>0)&&(decide (j>0)&&(decide (0≤IntKind.i64.wrap (j-1))&&(decide (IntKind.i64.wrap (j-1)<(↑n:Int))&&(decide (j>0)&&(decide ((IntKind.i64.wrap (j-1)).toNat<v.length)&&(decide (j>0)&&((!bif decide (j>0)then decide (v.getD j.toNat 0<v.getD (IntKind.i64.wrap (j-1)).toNat 0)else false)&&true))))))))))))))))),[],m9 n (v) i):=by kernel_rfl
theorem NH (n:Nat) (v:List Int) (i j:Int):aH 1 (aA f166 2) (aD f166 2) (aK tt (aB T31) ([]) 1 100 (a6 2 (a7 f166)) (uM n v i j) [(0,false)])=
  some (.exit 2,(!decide (j>0)&&(!decide (j>0)&&(!decide (j>0)&&(!decide (j>0)&&(!decide (j>0)&&(!decide (j>0)&&(!decide (j>0)&&(!decide (j>0)&&(!decide (j>0)&&(!decide (j>0)&&((!decide (j>0))&&true))))))))))),[],m9 n (v) i):=by kernel_rfl
theorem TA (n:Nat) (v v':List Int) (i:Int):aH 1 (aA f166 0) (aD f166 0) (aK tt (aB T31) ([(2,⟨aA f166 2,uM n v i i,.normal,m9 n v' i⟩)]) 1 100 (a6 0 (a7 f166)) (m9 n v i) [(0,true)])=
  some (.normal,((decide (i<(↑n:Int)))&&true),[uM n v i i=uM n v i i],m9 n (v') (IntKind.i64.wrap (i+1))):=by kernel_rfl
theorem TB (n:Nat) (v v':List Int) (i:Int) (lcv:List (Nat×LC)):aH 1 (aA f166 0) (aD f166 0) (aK tt (aB T31) (lcv) 1 100 (a6 0 (a7 f166)) (m9 n v i) [(0,false)])=
  some (.exit 0,((!decide (i<(↑n:Int)))&&true),[],L8 (v)):=by kernel_rfl
end
section
def swp (v:List Int) (j:Nat):List Int:=(v.set j (v.getD (j-1) 0)).set (j-1) (v.getD j 0)
def pB (j0 t:Nat) (v:List Int):List Int⊕List Int:=bif decide (v.getD (j0-t) 0<v.getD (j0-t-1) 0)then .inl (swp v (j0-t))else .inr v
def kJ (j0:Nat) (v:List Int):List Int:=match dO (pB j0) j0 0 v with|.inl v=>v|.inr v=>v
def cW (v:List Int):List Int:=bP (fun t v=>kJ (t+1) v) (v.length-1) 0 v
theorem jP (v:List Int) (j:Nat):(swp v j).length=v.length:=by simp[swp]
theorem hS {β γ:Type} {step:Nat→β→β⊕γ} (Inv:Nat→β→Prop) (Q:γ→Prop): ∀(f i:Nat) (b:β),Inv i b→
  (∀k b,i≤k→k<i+f→Inv k b→(∀b',step k b=.inl b'→Inv (k+1) b')∧ ∀c,step k b=.inr c→Q c)→match dO step f i b with|.inl b'=>Inv (i+f) b'|.inr c=>Q c
 |0,i,b,h,_=>h
 |f+1,i,b,h,hs=>by
  simp only[dO]
  have h0:=hs i b (Nat.le_refl _) (by omega) h
  cases hb:step i b with
  |inl b'=>
   have:=hS (step:=step) Inv Q f (i+1) b' (h0.1 b' hb) (fun k b h1 h2=>hs k b (by omega) (by omega))
   rw[show i+(f+1)=i+1+f from by omega]
   exact this
  |inr c=>exact h0.2 c hb
theorem zP (j:Nat) (v:List Int):(kJ j v).length=v.length:=by
 have:=hS (step:=pB j) (fun _ b=>b.length=v.length) (fun c=>c.length=v.length) j 0 v rfl (fun k b _ _ hb=>by
  unfold pB
  cases decide (b.getD (j-k) 0<b.getD (j-k-1) 0)
  ·exact⟨fun b' h=>by simp at h,fun c h=>by simp at h;rw[←h];exact hb⟩
  ·exact⟨fun b' h=>by simp at h;rw[←h,jP];exact hb,fun c h=>by simp at h⟩)
 unfold kJ
 revert this
 cases dO (pB j) j 0 v<;>exact fun h=>h
theorem pR (v:List Int):(cW v).length=v.length:=bH (step:=fun t v=>kJ (t+1) v) (fun _ b=>b.length=v.length) _ v rfl fun k b _ h=>by rw[zP];exact h
theorem XG (v:List Int) (i j0:Nat) (hl:v.length≤274877906944) (hj:j0<v.length):
  aW Tryz.prog 1 (.block 2 (.loop (a6 2 (a7 f166)))) (uM v.length v i j0) fun e t=>e=.normal∧t=m9 v.length (kJ j0 v) i:=by
 have key:=aW.countE hT t31 bM (m:=1) (id:=2) (body:=a6 2 (a7 f166)) j0 (fun _ b=>b.length=v.length) (fun t b=>uM v.length b i (j0-t:Nat)) (fun b=>m9 v.length b i) (fun b=>m9 v.length b i) .normal (.inl rfl)
  (pB j0) (aA f166 2) (aD f166 2) (fun _ _=>[]) (fun _ _ _ _=>aF.nil) (fun t b ht hb=> ?_) (fun b hb=> ?_) v rfl
 ·refine aW.mono key fun e t h=> ?_
  unfold kJ
  revert h
  cases dO (pB j0) j0 0 v<;>exact fun h=>h
 ·unfold pB
  have hw:IntKind.i64.wrap (((j0-t:Nat):Int)-1)=((j0-t-1:Nat):Int):=by rw[dQ (by omega) (by omega)];omega
  cases hq:decide (b.getD (j0-t) 0<b.getD (j0-t-1) 0)with
  |true=>
   refine .inl ⟨swp b (j0-t),rfl,by rw[jP];exact hb, ?_⟩
   have e:=NF v.length b i (j0-t:Nat)
   rw[hw,Int.toNat_natCast,Int.toNat_natCast]at e
   rw[show j0-(t+1)=j0-t-1 from by omega]
   refine⟨_,_,⟨_,_,e, ?_,by simp⟩⟩
   have h0:decide (((j0-t:Nat):Int)>0)=true:=decide_eq_true (by omega)
   simp only[h0,hq,cond_true,List.length_set,Bool.true_and,Bool.and_true,Bool.and_eq_true,decide_eq_true_eq]
   omega
  |false=>
   refine .inr ⟨b,rfl, ?_⟩
   have e:=NG v.length b i (j0-t:Nat)
   rw[hw,Int.toNat_natCast,Int.toNat_natCast]at e
   rw[if_pos rfl]
   refine⟨_,_,⟨_,_,e, ?_,by simp⟩⟩
   have h0:decide (((j0-t:Nat):Int)>0)=true:=decide_eq_true (by omega)
   simp only[h0,hq,cond_true,Bool.not_false,Bool.true_and,Bool.and_true,Bool.and_eq_true,decide_eq_true_eq]
   omega
 ·rw[Nat.sub_self]
  have e:=NH v.length b i (0:Nat)
  exact⟨_,_,⟨_,_,e,by simp,by simp⟩⟩
theorem LL:a6 2 (a6 0 (a7 f166))=a6 2 (a7 f166):=by kernel_rfl
theorem a60 (v:List Int) (hl:v.length≤274877906944):
  aW Tryz.prog 1 (.block 0 (.loop (a6 0 (a7 f166)))) (m9 v.length v 1) fun e t=>e=.normal∧t=L8 (cW v):=by
 refine aW.count hT t31 bM (v.length-1) (fun _ b=>b.length=v.length) (fun t b=>m9 v.length b (1+t:Nat)) (fun b=>L8 b) (fun t b=>kJ (t+1) b) (aA f166 0) (aD f166 0)
  (fun t b=>[(2,⟨aA f166 2,uM v.length b (1+t:Nat) (1+t:Nat),.normal,m9 v.length (kJ (t+1) b) (1+t:Nat)⟩)]) (fun t b ht hb=> ?_) (fun t b ht hb=>⟨by rw[zP];exact hb, ?_⟩) (fun b hb=> ?_) v rfl
 ·refine aF.cons (by kernel_rfl) ?_ aF.nil
  rw[LL]
  have:=XG b (1+t) (1+t) (by omega) (by omega)
  rw[hb]at this
  rw[Nat.add_comm 1 t]at this⊢
  exact this
 ·have e:=TA v.length b (kJ (t+1) b) (1+t:Nat)
  rw[aE (by omega) (by omega)]at e
  refine⟨_,_,⟨_,_,e, ?_,by simp⟩⟩
  simp only[Bool.and_true,decide_eq_true_eq]
  omega
 ·have e:=TB v.length b [] (1+(v.length-1):Nat) []
  refine⟨_,_,⟨_,_,e, ?_,by simp⟩⟩
  simp only[Bool.and_true,Bool.not_eq_true',decide_eq_false_iff_not]
  omega
theorem V4 (v:List Int):aG tt (aB T31) ([(0,⟨aA f166 0,m9 v.length v 1,.normal,L8 (cW v)⟩)]) 100 f166 [.c (.sl 0 0 v.length 1 none),.c (.int .i64 0),.c (.int .i64 v.length)] [.live (.ints .i64 v)] []=
  some ⟨.tup [],[.live (.ints .i64 (cW v))],true,[m9 v.length v 1=m9 v.length v 1]⟩:=by kernel_rfl
def GE:aQ:=fun args h=>
 match args,h with
 |[.c (.sl 0 0 n 1 none),.c (.int .i64 0),.c (.int .i64 n2)],[.live (.ints .i64 v)]=>
  some (.tup [],[.live (.ints .i64 (cW v))],[decide (v.length≤274877906944),decide (n=v.length),decide (n2=(v.length:Int))])
 |_,_=>none
theorem a7L:aS Tryz.prog 199 GE:=by
 intro args h res h' o he ho
 unfold GE at he
 split at he
 case h_2=>cases he
 rename_i n n2 v
 simp only[Option.some.injEq,Prod.mk.injEq]at he
 obtain⟨rfl,rfl,rfl⟩:=he
 simp only[List.mem_cons,List.not_mem_nil,or_false,forall_eq_or_imp,forall_eq,decide_eq_true_eq]at ho
 obtain⟨o1,o2,o3⟩:=ho
 subst o2 o3
 exact a5 t31 (fn:=f166) (by kernel_rfl) (by kernel_rfl) (V4 v) (by simp) (by simp) (fun cc hc=>aF.cons (c:=cc) (by cases hc;kernel_rfl) (by cases hc;exact a60 v o1) aF.nil)
noncomputable def T32:List bF:=[⟨199,[0],GE⟩]++T31
theorem e32:a8 Tryz.prog T32:=by
 refine a8.append ?_ e31
 intro e he
 simp only[List.mem_cons,List.not_mem_nil,or_false]at he
 subst he;exact a7L
theorem t32:bN Tryz.prog (aB T32):=aP e32
theorem UX (v:List Int) (lim:Int):aG tt (aB T32) ([]) 100 Tryz.f174 [.c (.sl 0 0 v.length 1 none),.c (.int .i64 0),.c (.int .i64 v.length),.c (.int .i64 lim)] [.live (.ints .i64 v)] [(0,true)]=
  some ⟨.tup [],[.live (.ints .i64 (cW v))],(decide (IntKind.i64.wrap ((↑v.length:Int)-0)≤12)&&(decide (v.length≤274877906944)&&(decide (v.length=v.length)&&((decide ((↑v.length:Int)=(↑v.length:Int)))&&true)))),[]⟩:=by kernel_rfl
def GL:aQ:=fun args h=>
 match args,h with
 |[.c (.sl 0 0 n 1 none),.c (.int .i64 0),.c (.int .i64 n2),.c (.int .i64 lim)],[.live (.ints .i64 v)]=>
  some (.tup [],[.live (.ints .i64 (cW v))],[decide (v.length≤12),decide (n=v.length),decide (n2=(v.length:Int))])
 |_,_=>none
theorem a71:aS Tryz.prog 174 GL:=by
 intro args h res h' o he ho
 unfold GL at he
 split at he
 case h_2=>cases he
 rename_i n n2 lim v
 simp only[Option.some.injEq,Prod.mk.injEq]at he
 obtain⟨rfl,rfl,rfl⟩:=he
 simp only[List.mem_cons,List.not_mem_nil,or_false,forall_eq_or_imp,forall_eq,decide_eq_true_eq]at ho
 obtain⟨o1,o2,o3⟩:=ho
 subst o2 o3
 exact a5 t32 (by kernel_rfl) (by kernel_rfl) (UX v lim) (by
  rw[Int.sub_zero,aE (by omega) (by omega)]
  simp;omega) (by simp) (fun c _=>aF.nil)
def XI (n:Int):Int:=[0,1,2,2,3,3,3,3,4].getD n.toNat 0
def wU:aQ:=fun args h=>
 match args,h with
 |[.c (.int .u64 n)],[]=>
  some (.c (.int .i64 (XI n)),[],[bet n 0 8])
 |_,_=>none
theorem a7N:aS Tryz.prog 209 wU:=by
 intro args h res h' o he ho
 unfold wU at he
 split at he
 case h_2=>cases he
 rename_i n
 simp only[Option.some.injEq,Prod.mk.injEq]at he
 obtain⟨rfl,rfl,rfl⟩:=he
 simp only[List.mem_cons,List.not_mem_nil,or_false,forall_eq_or_imp,forall_eq,decide_eq_true_eq]at ho
 have o1:=ho
 have hb:=b8.1 o1
 have all:cB (fun k=>kI (aG tt (aB T32) [] 1000 Tryz.f209 [.c (.int .u64 (k:Nat))] [] []) (XI (k:Nat))) 9=true:=by kernel_rfl
 have e:=iH (aY all n.toNat (by omega))
 rw[show((n.toNat:Nat):Int)=n from by omega]at e
 exact a5 t32 (by kernel_rfl) (by kernel_rfl) e rfl (by simp) (fun c _=>aF.nil)
noncomputable def T33:List bF:=[⟨174,[0],GL⟩,⟨209,[],wU⟩]++T32
theorem e33:a8 Tryz.prog T33:=by
 refine a8.append ?_ e32
 intro e he
 simp only[List.mem_cons,List.not_mem_nil,or_false]at he
 rcases he with rfl|rfl
 ·exact a71
 ·exact a7N
theorem t33:bN Tryz.prog (aB T33):=aP e33
theorem a64:aS Tryz.prog 175 (dZ tt (aB T33) Tryz.f175 []):=d6 hT t33 bM [] (by kernel_rfl) (by kernel_rfl)
noncomputable def T34:List bF:=[⟨175,[],dZ tt (aB T33) Tryz.f175 []⟩]++T33
theorem e34:a8 Tryz.prog T34:=by
 refine a8.append ?_ e33
 intro e he
 simp only[List.mem_cons,List.not_mem_nil,or_false]at he
 subst he;exact a64
theorem t34:bN Tryz.prog (aB T34):=aP e34
theorem UG (v:List Int):aG tt (aB T34) ([]) 100 Tryz.f129 [.c (.sl 0 0 v.length 1 none)] [.live (.ints .i64 v)] []=
  some ⟨.tup [],[.live (.ints .i64 (cW v))],((bet (IntKind.u64.wrap (↑v.length:Int)) 0 8&&true)&&(decide (v.length≤12)&&(decide (v.length=v.length)&&((decide ((↑v.length:Int)=(↑v.length:Int)))&&true)))),[]⟩:=by kernel_rfl
end
section
def BV:aQ:=fun args h=>
 match args,h with
 |[.c (.sl 0 0 n 1 none)],[.live (.ints .i64 v)]=>
  some (.tup [],[.live (.ints .i64 (cW v))],[decide (v.length≤8),decide (n=v.length)])
 |_,_=>none
theorem a6F:aS Tryz.prog 129 BV:=by
 intro args h res h' o he ho
 unfold BV at he
 split at he
 case h_2=>cases he
 rename_i n v
 simp only[Option.some.injEq,Prod.mk.injEq]at he
 obtain⟨rfl,rfl,rfl⟩:=he
 simp only[List.mem_cons,List.not_mem_nil,or_false,forall_eq_or_imp,forall_eq,decide_eq_true_eq]at ho
 obtain⟨o1,o2⟩:=ho
 subst o2
 exact a5 t34 (by kernel_rfl) (by kernel_rfl) (UG v) (by
  have hw:IntKind.u64.wrap (v.length:Int)=v.length:=by simp[IntKind.wrap,IntKind.bits,IntKind.signed];omega
  rw[hw]
  simp[bet];omega) (by simp) (fun c _=>aF.nil)
def yC (n t:Nat) (v:List Int):List Int:=(v.set t (v.getD (n-1-t) 0)).set (n-1-t) (v.getD t 0)
def jL (v:List Int):List Int:=bP (yC v.length) (v.length/2) 0 v
noncomputable abbrev f114:=Tryz.f130
noncomputable def yL (n:Nat) (v:List Int) (i j:Int):St:=bA f114.ntmps [(0,.c (.sl 0 0 n 1 none)),(2,.c (.int .i64 i)),(3,.c (.int .i64 j))] [.live (.ints .i64 v)]
noncomputable def KV (v:List Int):St:=bA f114.ntmps [] [.live (.ints .i64 v)]
theorem RZ (n:Nat) (v:List Int) (i j:Int):aH 1 (aA f114 0) (aD f114 0) (aK tt (aB T34) ([]) 1 100 (a6 0 (a7 f114)) (yL n v i j) [(0,true)])=
  some (.normal,(decide (i<j)&&(decide (0≤j)&&(decide (j<(↑n:Int))&&(decide (j.toNat<v.length)&&(decide (0≤i)&&(decide (i<(↑n:Int))&&(decide (i.toNat<v.length)&&(decide (0≤i)&&(decide (i<(↑n:Int))&&(decide (i.toNat<v.length)&&(decide (0≤j)&&(decide (j<(↑n:Int))&&((decide (j.toNat<(v.set i.toNat (v.getD j.toNat 0)).length))&&true))))))))))))),[],yL n ((v.set i.toNat (v.getD j.toNat 0)).set j.toNat (v.getD i.toNat 0)) (IntKind.i64.wrap (i+1)) (IntKind.i64.wrap (j-1))):=by kernel_rfl
theorem S0 (n:Nat) (v:List Int) (i j:Int):aH 1 (aA f114 0) (aD f114 0) (aK tt (aB T34) ([]) 1 100 (a6 0 (a7 f114)) (yL n v i j) [(0,false)])=
  some (.exit 0,((!decide (i<j))&&true),[],KV (v)):=by kernel_rfl
theorem a5K (v:List Int) (hl:v.length≤274877906944):
  aW Tryz.prog 1 (.block 0 (.loop (a6 0 (a7 f114)))) (yL v.length v 0 ((v.length:Int)-1)) fun e t=>e=.normal∧t=KV (jL v):=by
 have key:=aW.count hT t34 bM (m:=1) (id:=0) (body:=a6 0 (a7 f114)) (v.length/2) (fun _ b=>b.length=v.length) (fun t b=>yL v.length b t ((v.length:Int)-1-t)) (fun b=>KV b) (yC v.length) (aA f114 0) (aD f114 0)
  (fun _ _=>[]) (fun _ _ _ _=>aF.nil) (fun t b ht hb=>⟨by simp[yC,hb], ?_⟩) (fun b hb=> ?_) v rfl
 ·rw[Int.natCast_zero,Int.sub_zero]at key
  exact key
 ·have e:=RZ v.length b t ((v.length:Int)-1-t)
  rw[aE (i:=(t:Int)+1) (by omega) (by omega),dQ (i:=(v.length:Int)-1-t-1) (by omega) (by omega),Int.toNat_natCast,show((v.length:Int)-1-t).toNat=v.length-1-t from by omega]at e
  rw[show(v.length:Int)-1-((t+1:Nat):Int)=(v.length:Int)-1-t-1 from by omega]
  refine⟨_,_,⟨_,_,e, ?_,by simp⟩⟩
  simp only[List.length_set,Bool.and_true,Bool.and_eq_true,decide_eq_true_eq]
  omega
 ·have e:=S0 v.length b (v.length/2:Nat) ((v.length:Int)-1-(v.length/2:Nat))
  refine⟨_,_,⟨_,_,e, ?_,by simp⟩⟩
  simp only[Bool.and_true,Bool.not_eq_true',decide_eq_false_iff_not]
  omega
theorem UH (v:List Int):aG tt (aB T34) ([(0,⟨aA f114 0,yL v.length v 0 (IntKind.i64.wrap ((v.length:Int)-1)),.normal,KV (jL v)⟩)]) 100 f114 [.c (.sl 0 0 v.length 1 none)] [.live (.ints .i64 v)] []=
  some ⟨.tup [],[.live (.ints .i64 (jL v))],true,[yL v.length v 0 (IntKind.i64.wrap ((v.length:Int)-1))=yL v.length v 0 (IntKind.i64.wrap ((v.length:Int)-1))]⟩:=by kernel_rfl
def GN:aQ:=fun args h=>
 match args,h with
 |[.c (.sl 0 0 n 1 none)],[.live (.ints .i64 v)]=>
  some (.tup [],[.live (.ints .i64 (jL v))],[decide (v.length≤274877906944),decide (n=v.length)])
 |_,_=>none
theorem a6G:aS Tryz.prog 130 GN:=by
 intro args h res h' o he ho
 unfold GN at he
 split at he
 case h_2=>cases he
 rename_i n v
 simp only[Option.some.injEq,Prod.mk.injEq]at he
 obtain⟨rfl,rfl,rfl⟩:=he
 simp only[List.mem_cons,List.not_mem_nil,or_false,forall_eq_or_imp,forall_eq,decide_eq_true_eq]at ho
 obtain⟨o1,o2⟩:=ho
 subst o2
 have g:=a5K v o1
 have e:=UH v
 rw[dQ (by omega) (by omega)]at e
 exact a5 t34 (fn:=f114) (by kernel_rfl) (by kernel_rfl) e (by simp) (by simp) (fun cc hc=>aF.cons (c:=cc) (by cases hc;kernel_rfl) (by cases hc;exact g) aF.nil)
noncomputable abbrev f115:=Tryz.f131
noncomputable def qY (v:List Int) (k:Int):St:=bA f115.ntmps [(0,.c (.sl 0 0 v.length 1 none)),(3,.c (.int .i64 k))] [.live (.ints .i64 v)]
noncomputable def sB (n k0:Nat) (v:List Int) (k k2:Int):St:=
 bA f115.ntmps [(0,.c (.sl 0 0 n 1 none)),(3,.c (.int .i64 k)),(4,.c (.sl 0 k0 (n-k0) 1 none)),(5,.c (.int .i64 k2))] [.live (.ints .i64 v)]
noncomputable def H6 (n:Nat) (v:List Int) (k:Int):St:=bA f115.ntmps [(0,.c (.sl 0 0 n 1 none)),(3,.c (.int .i64 k))] [.live (.ints .i64 v)]
theorem MJ (n k0:Nat) (v:List Int) (k k2:Int):aH 1 (aA f115 2) (aD f115 2) (aK tt (aB T34) ([]) 1 100 (a6 2 (a7 f115)) (sB n k0 v k k2) [(0,true),(0,true)])=
  some (.normal,(decide (k2<(↑(n-k0):Int))&&(decide (0≤k2)&&(decide (k2<(↑(n-k0):Int))&&(decide (k2.toNat+k0<v.length)&&(decide (0≤IntKind.i64.wrap (k2-1))&&(decide (IntKind.i64.wrap (k2-1)<(↑(n-k0):Int))&&(decide ((IntKind.i64.wrap (k2-1)).toNat+k0<v.length)&&((v.getD (k2.toNat+k0) 0 !=v.getD ((IntKind.i64.wrap (k2-1)).toNat+k0) 0)&&(decide (0≤k2)&&(decide (k2<(↑(n-k0):Int))&&(decide (k2.toNat+k0<v.length)&&(decide (0≤k)&&(decide (k<(↑n:Int))&&((decide (k.toNat<v.length))&&true)))))))))))))),[],sB n k0 (v.set k.toNat (v.getD (k2.toNat+k0) 0)) (IntKind.i64.wrap (k+1)) (IntKind.i64.wrap (k2+1))):=by kernel_rfl
theorem MK (n k0:Nat) (v:List Int) (k k2:Int):aH 1 (aA f115 2) (aD f115 2) (aK tt (aB T34) ([]) 1 100 (a6 2 (a7 f115)) (sB n k0 v k k2) [(0,true),(0,false)])=
  some (.normal,(decide (k2<(↑(n-k0):Int))&&(decide (0≤k2)&&(decide (k2<(↑(n-k0):Int))&&(decide (k2.toNat+k0<v.length)&&(decide (0≤IntKind.i64.wrap (k2-1))&&(decide (IntKind.i64.wrap (k2-1)<(↑(n-k0):Int))&&(decide ((IntKind.i64.wrap (k2-1)).toNat+k0<v.length)&&((!v.getD (k2.toNat+k0) 0 !=v.getD ((IntKind.i64.wrap (k2-1)).toNat+k0) 0)&&true)))))))),[],sB n k0 (v) (k) (IntKind.i64.wrap (k2+1))):=by kernel_rfl
theorem ML (n k0:Nat) (v:List Int) (k k2:Int):aH 1 (aA f115 2) (aD f115 2) (aK tt (aB T34) ([]) 1 100 (a6 2 (a7 f115)) (sB n k0 v k k2) [(0,false)])=
  some (.exit 2,((!decide (k2<(↑(n-k0):Int)))&&true),[],H6 n (v) (k)):=by kernel_rfl
noncomputable def KW (n:Nat) (v:List Int):St:=bA f115.ntmps [(0,.c (.sl 0 0 n 1 none))] [.live (.ints .i64 v)]
noncomputable def LD (n:Nat) (v:List Int) (k:Nat):St:=
 bA f115.ntmps [(0,.c (.sl 0 0 n 1 none)),(2,.c (.sl 0 0 k 1 none))] [.live (.ints .i64 (v.take k++(List.replicate (n-k) 0++v.drop (k+(n-k)))))]
theorem S1 (v v':List Int) (k k0:Nat):aH 1 (aA f115 0) (aD f115 0) (aK tt (aB T34) ([(2,⟨aA f115 2,sB v.length k0 v k0 1,.normal,H6 v.length v' k⟩)]) 1 100 (a6 0 (a7 f115)) (qY v k0) [(0,true),(0,true)])=
  some (.ret,(decide ((↑k0:Int)<(↑v.length:Int))&&(decide ((↑k0:Int)<(↑v.length:Int))&&(decide ((↑k0:Int).toNat<v.length)&&(decide (0≤IntKind.i64.wrap ((↑k0:Int)-1))&&(decide (IntKind.i64.wrap ((↑k0:Int)-1)<(↑v.length:Int))&&(decide ((IntKind.i64.wrap ((↑k0:Int)-1)).toNat<v.length)&&((v.getD (↑k0:Int).toNat 0==v.getD (IntKind.i64.wrap ((↑k0:Int)-1)).toNat 0)&&(decide ((↑k0:Int)≤(↑v.length:Int))&&(decide ((↑k:Int)≤(↑v.length:Int))&&(decide ((↑k:Int).toNat+(v.length-(↑k:Int).toNat)≤v'.length)&&((decide ((↑k:Int)≤(↑v.length:Int)))&&true))))))))))),[sB v.length k0 v k0 1=sB v.length k0 v k0 1],LD v.length v' k):=by kernel_rfl
theorem S2 (v v':List Int) (k k0:Nat) (lcv:List (Nat×LC)):aH 1 (aA f115 0) (aD f115 0) (aK tt (aB T34) (lcv) 1 100 (a6 0 (a7 f115)) (qY v k0) [(0,false)])=
  some (.exit 0,((!decide ((↑k0:Int)<(↑v.length:Int)))&&true),[],KW v.length v):=by kernel_rfl
theorem MM (v:List Int) (k0:Nat):aH 1 (aA f115 0) (aD f115 0) (aK tt (aB T34) ([]) 1 100 (a6 0 (a7 f115)) (qY v k0) [(0,true),(0,false)])=
  some (.normal,(decide ((↑k0:Int)<(↑v.length:Int))&&(decide ((↑k0:Int)<(↑v.length:Int))&&(decide ((↑k0:Int).toNat<v.length)&&(decide (0≤IntKind.i64.wrap ((↑k0:Int)-1))&&(decide (IntKind.i64.wrap ((↑k0:Int)-1)<(↑v.length:Int))&&(decide ((IntKind.i64.wrap ((↑k0:Int)-1)).toNat<v.length)&&((!v.getD (↑k0:Int).toNat 0==v.getD (IntKind.i64.wrap ((↑k0:Int)-1)).toNat 0)&&true))))))),[],qY v (IntKind.i64.wrap ((k0:Int)+1))):=by kernel_rfl
def eZ (v:List Int):Nat→List Int
 |0=>[]
 |n+1=>bif Nat.beq n 0||v.getD n 0 !=v.getD (n-1) 0 then eZ v n++[v.getD n 0]else eZ v n
def jT (v:List Int):List Int:=eZ v v.length
theorem kY {v:List Int}: ∀(n:Nat),n≤v.length→(∀k,1≤k→k<n→(v.getD k 0==v.getD (k-1) 0)=false)→eZ v n=v.take n
 |0,_,_=>by simp[eZ]
 |n+1,hn,h=>by
  simp only[eZ]
  rw[kY n (by omega) (fun k h1 h2=>h k h1 (by omega)),j8 hn]
  have:(Nat.beq n 0||v.getD n 0 !=v.getD (n-1) 0)=true:=by
   by_cases h0:n=0
   ·subst h0;rfl
   ·have:=h n (by omega) (by omega)
    rw[bne,this];simp
  rw[this];rfl
def xS (k0 t:Nat) (v0:List Int) (s:List Int×Nat):List Int×Nat:=bif v0.getD (k0+1+t) 0 !=v0.getD (k0+t) 0 then(s.1.set s.2 (v0.getD (k0+1+t) 0),s.2+1)else s
def yI (v:List Int) (k0 t:Nat) (s:List Int×Nat):Prop:=s.1.length=v.length∧s.2≤k0+t∧(∀q,s.2≤q→s.1.getD q 0=v.getD q 0)∧s.1.take s.2=eZ v (k0+1+t)
theorem sP {v:List Int} {k0 t:Nat} {s:List Int×Nat} (h:yI v k0 t s) (ht:k0+1+t<v.length):yI v k0 (t+1) (xS k0 t v s):=by
 obtain⟨h1,h2,h3,h4⟩:=h
 unfold xS
 have hc:eZ v (k0+1+(t+1))=bif v.getD (k0+1+t) 0 !=v.getD (k0+t) 0 then eZ v (k0+1+t)++[v.getD (k0+1+t) 0]else eZ v (k0+1+t):=by
  rw[show k0+1+(t+1)=(k0+1+t)+1 from by omega]
  simp only[eZ]
  rw[show k0+1+t-1=k0+t from by omega]
  have:Nat.beq (k0+1+t) 0=false:=by
   cases h:Nat.beq _ 0 with
   |false=>rfl
   |true=>have:=Nat.eq_of_beq_eq_true h;omega
  rw[this,Bool.false_or]
 unfold yI
 rw[hc]
 cases hq:v.getD (k0+1+t) 0 !=v.getD (k0+t) 0 with
 |true=>
  simp only[cond_true]
  refine⟨by simp[h1],by omega,fun q hq'=> ?_, ?_⟩
  ·rw[aX,if_neg (by omega)];exact h3 q (by omega)
  ·rw[j8 (by rw[List.length_set];omega),List.take_set,List.set_eq_of_length_le (by rw[List.length_take];omega),aX,if_pos ⟨rfl,by omega⟩,h4]
 |false=>
  simp only[cond_false]
  exact⟨h1,by omega,h3,h4⟩
theorem oZ {v:List Int} {k0:Nat} (h0:1≤k0) (h1:k0<v.length) (he:(v.getD k0 0==v.getD (k0-1) 0)=true) (hd: ∀k,1≤k→k<k0→(v.getD k 0==v.getD (k-1) 0)=false):yI v k0 0 (v,k0):=by
 refine⟨rfl,by dsimp only;omega,fun q _=>rfl, ?_⟩
 dsimp only
 rw[Nat.add_zero]
 simp only[eZ]
 have hb:Nat.beq k0 0=false:=by
   cases h:Nat.beq _ 0 with
   |false=>rfl
   |true=>have:=Nat.eq_of_beq_eq_true h;omega
 rw[hb,Bool.false_or,bne,he]
 exact(kY k0 (by omega) hd).symm
theorem X5 (v:List Int) (k0:Nat) (hl:v.length≤274877906944) (h1:k0<v.length) (hi:yI v k0 0 (v,k0)):
  aW Tryz.prog 1 (.block 2 (.loop (a6 2 (a7 f115)))) (sB v.length k0 v k0 1) fun e t=>e=.normal∧
   t=H6 v.length (bP (fun t s=>xS k0 t v s) (v.length-k0-1) 0 (v,k0)).1 (bP (fun t s=>xS k0 t v s) (v.length-k0-1) 0 (v,k0)).2:=by
 refine aW.count hT t34 bM (m:=1) (id:=2) (body:=a6 2 (a7 f115)) (v.length-k0-1) (yI v k0) (fun t s=>sB v.length k0 s.1 s.2 (1+t:Nat)) (fun s=>H6 v.length s.1 s.2) (fun t s=>xS k0 t v s) (aA f115 2) (aD f115 2)
  (fun _ _=>[]) (fun _ _ _ _=>aF.nil) (fun t s ht h=>⟨sP h (by omega), ?_⟩) (fun s h=> ?_) (v,k0) hi
 ·obtain⟨d1,d2,d3,d4⟩:=h
  have hw:IntKind.i64.wrap (((1+t:Nat):Int)-1)=(t:Nat):=by rw[dQ (by omega) (by omega)];omega
  have e1:=d3 (1+t+k0) (by omega)
  have e2:=d3 (t+k0) (by omega)
  unfold xS
  rw[show k0+1+t=1+t+k0 from by omega,show k0+t=t+k0 from by omega]
  cases hq:v.getD (1+t+k0) 0 !=v.getD (t+k0) 0 with
  |true=>
   have e:=MJ v.length k0 s.1 s.2 (1+t:Nat)
   rw[hw,aE (i:=(s.2:Int)+1) (by omega) (by omega),aE (i:=((1+t:Nat):Int)+1) (by omega) (by omega),Int.toNat_natCast,Int.toNat_natCast,Int.toNat_natCast,e1,e2]at e
   refine⟨_,_,⟨_,_,e, ?_,by simp⟩⟩
   simp only[hq,Bool.true_and,Bool.and_true,Bool.and_eq_true,decide_eq_true_eq]
   omega
  |false=>
   have e:=MK v.length k0 s.1 s.2 (1+t:Nat)
   rw[hw,aE (i:=((1+t:Nat):Int)+1) (by omega) (by omega),Int.toNat_natCast,Int.toNat_natCast,e1,e2]at e
   refine⟨_,_,⟨_,_,e, ?_,by simp⟩⟩
   simp only[hq,Bool.not_false,Bool.true_and,Bool.and_true,Bool.and_eq_true,decide_eq_true_eq]
   omega
 ·have e:=ML v.length k0 s.1 s.2 (1+(v.length-k0-1):Nat)
  refine⟨_,_,⟨_,_,e, ?_,by simp⟩⟩
  simp only[Bool.and_true,Bool.not_eq_true',decide_eq_false_iff_not]
  omega
theorem LF:a6 2 (a6 0 (a7 f115))=a6 2 (a7 f115):=by kernel_rfl
def zE (v:List Int) (k0:Nat):List Int×Nat:=bP (fun t s=>xS k0 t v s) (v.length-k0-1) 0 (v,k0)
def xR (v:List Int) (t:Nat) (_:Unit):Unit⊕(List Int×Nat):=bif v.getD (1+t) 0==v.getD t 0 then .inr (zE v (1+t))else .inl ()
theorem a5L (v:List Int) (hl:v.length≤274877906944):
  aW Tryz.prog 1 (.block 0 (.loop (a6 0 (a7 f115)))) (qY v 1) fun e t=>match dO (xR v) (v.length-1) 0 ()with
   |.inl _=>e=.normal∧t=KW v.length v
   |.inr c=>e=.ret∧t=LD v.length c.1 c.2:=by
 have key:=aW.countE hT t34 bM (m:=1) (id:=0) (body:=a6 0 (a7 f115)) (v.length-1) (fun t _=> ∀k,1≤k→k<1+t→(v.getD k 0==v.getD (k-1) 0)=false) (fun t _=>qY v (1+t:Nat)) (fun _=>KW v.length v)
  (fun c=>LD v.length c.1 c.2) .ret (.inr rfl) (xR v) (aA f115 0) (aD f115 0)
  (fun t _=>bif v.getD (1+t) 0==v.getD t 0 then [(2,⟨aA f115 2,sB v.length (1+t) v (1+t:Nat) 1,.normal,H6 v.length (zE v (1+t)).1 (zE v (1+t)).2⟩)]else []) (fun t _ ht h=> ?_) (fun t _ ht h=> ?_) (fun _ h=> ?_) () (fun k h1 h2=>by omega)
 ·refine aW.mono key fun e t h=> ?_
  revert h
  cases dO (xR v) (v.length-1) 0 ()<;>exact fun h=>h
 ·cases hq:v.getD (1+t) 0==v.getD t 0 with
  |true=>exact aF.cons (by kernel_rfl) (by rw[LF];exact X5 v (1+t) hl (by omega) (oZ (by omega) (by omega) (by rw[show 1+t-1=t from by omega];exact hq) h)) aF.nil
  |false=>exact aF.nil
 ·have hw:IntKind.i64.wrap (((1+t:Nat):Int)-1)=(t:Nat):=by rw[dQ (by omega) (by omega)];omega
  unfold xR
  cases hq:v.getD (1+t) 0==v.getD t 0 with
  |true=>
   refine .inr ⟨_,rfl, ?_⟩
   have hi:=oZ (v:=v) (k0:=1+t) (by omega) (by omega) (by rw[show 1+t-1=t from by omega];exact hq) h
   have fin:=bH (step:=fun u s=>xS (1+t) u v s) (yI v (1+t)) (v.length-(1+t)-1) (v,1+t) hi fun u s hu h=>sP h (by omega)
   have e:=S1 v (zE v (1+t)).1 (zE v (1+t)).2 (1+t)
   rw[hw,Int.toNat_natCast,Int.toNat_natCast]at e
   obtain⟨f1,f2,f3,f4⟩:=fin
   refine⟨_,_,⟨_,_,e, ?_,by simp⟩⟩
   have g1:(zE v (1+t)).1.length=v.length:=f1
   have g2:(zE v (1+t)).2≤1+t+(v.length-(1+t)-1):=f2
   simp only[hq,Int.toNat_natCast,Bool.true_and,Bool.and_true,Bool.and_eq_true,decide_eq_true_eq]
   omega
  |false=>
   refine .inl ⟨(),rfl,fun k h1 h2=> ?_, ?_⟩
   ·by_cases e:k=1+t
    ·subst e;rw[show 1+t-1=t from by omega];exact hq
    ·exact h k h1 (by omega)
   ·have e:=MM v (1+t)
    rw[hw,Int.toNat_natCast,Int.toNat_natCast,aE (by omega) (by omega)]at e
    refine⟨_,_,⟨_,_,e, ?_,by simp⟩⟩
    simp only[hq,Bool.not_false,Bool.true_and,Bool.and_true,Bool.and_eq_true,decide_eq_true_eq]
    omega
 ·have e:=S2 v [] 0 (1+(v.length-1)) []
  refine⟨_,_,⟨_,_,e, ?_,by simp⟩⟩
  simp only[Bool.and_true,Bool.not_eq_true',decide_eq_false_iff_not]
  omega
end
section
theorem O7 (v:List Int):aG tt (aB T34) ([]) 100 f115 [.c (.sl 0 0 v.length 1 none)] [.live (.ints .i64 v)] [(0,true)]=
  some ⟨.c (.sl 0 0 v.length 1 none),[.live (.ints .i64 v)],((decide ((↑v.length:Int)<2))&&true),[]⟩:=by kernel_rfl
theorem O8 (v:List Int):aG tt (aB T34) ([(0,⟨aA f115 0,qY v 1,.normal,KW v.length v⟩)]) 100 f115 [.c (.sl 0 0 v.length 1 none)] [.live (.ints .i64 v)] [(0,false)]=
  some ⟨.c (.sl 0 0 v.length 1 none),[.live (.ints .i64 v)],((!decide ((↑v.length:Int)<2))&&true),[qY v 1=qY v 1]⟩:=by kernel_rfl
theorem O9 (v v':List Int) (k:Nat):aG tt (aB T34) ([(0,⟨aA f115 0,qY v 1,.ret,LD v.length v' k⟩)]) 100 f115 [.c (.sl 0 0 v.length 1 none)] [.live (.ints .i64 v)] [(0,false)]=
  some ⟨.c (.sl 0 0 k 1 none),[.live (.ints .i64 (List.take k v'++(List.replicate (v.length-k) 0++List.drop (k+(v.length-k)) v')))],((!decide ((↑v.length:Int)<2))&&true),[qY v 1=qY v 1]⟩:=by kernel_rfl
def oR:aQ:=fun args h=>
 match args,h with
 |[.c (.sl 0 0 n 1 none)],[.live (.ints .i64 v)]=>
  some (.c (.sl 0 0 (jT v).length 1 none),[.live (.ints .i64 (jT v))],[decide (v.length≤274877906944),decide (n=v.length)])
 |_,_=>none
theorem HU (v:List Int):match dO (xR v) (v.length-1) 0 ()with
  |.inl _=>jT v=v
  |.inr c=>c.1.length=v.length∧c.2≤v.length∧c.1.take c.2=jT v:=by
 have:=hS (step:=xR v) (fun t _=> ∀k,1≤k→k<1+t→(v.getD k 0==v.getD (k-1) 0)=false) (fun c=>c.1.length=v.length∧c.2≤v.length∧c.1.take c.2=jT v) (v.length-1) 0 ()
  (fun k h1 h2=>by omega) (fun t _ h1 h2 h=> ?_)
 ·revert this
  cases dO (xR v) (v.length-1) 0 ()with
  |inl u=>
   intro h
   have:=kY (v:=v) v.length (Nat.le_refl _) (fun k h1 h2=>h k h1 (by omega))
   rw[List.take_length]at this;exact this
  |inr c=>exact fun h=>h
 ·unfold xR
  cases hq:v.getD (1+t) 0==v.getD t 0 with
  |true=>
   refine⟨fun b' hb=>by simp at hb,fun c hc=> ?_⟩
   simp only[cond_true,Sum.inr.injEq]at hc
   subst hc
   have hi:=oZ (v:=v) (k0:=1+t) (by omega) (by omega) (by rw[show 1+t-1=t from by omega];exact hq) h
   have fin:=bH (step:=fun u s=>xS (1+t) u v s) (yI v (1+t)) (v.length-(1+t)-1) (v,1+t) hi fun u s hu h=>sP h (by omega)
   obtain⟨f1,f2,f3,f4⟩:=fin
   refine⟨f1, ?_, ?_⟩
   ·have g2:(zE v (1+t)).2≤1+t+(v.length-(1+t)-1):=f2
    omega
   ·rw[show 1+t+1+(v.length-(1+t)-1)=v.length from by omega]at f4
    exact f4
  |false=>
   refine⟨fun b' _ k h3 h4=> ?_,fun c hc=>by simp at hc⟩
   by_cases e:k=1+t
   ·subst e;rw[show 1+t-1=t from by omega];exact hq
   ·exact h k h3 (by omega)
theorem a6H:aS Tryz.prog 131 oR:=by
 intro args h res h' o he ho
 unfold oR at he
 split at he
 case h_2=>cases he
 rename_i n v
 simp only[Option.some.injEq,Prod.mk.injEq]at he
 obtain⟨rfl,rfl,rfl⟩:=he
 simp only[List.mem_cons,List.not_mem_nil,or_false,forall_eq_or_imp,forall_eq,decide_eq_true_eq]at ho
 obtain⟨o1,o2⟩:=ho
 subst o2
 by_cases hs:(v.length:Int)<2
 ·have hc:jT v=v:=by
   have:=kY (v:=v) v.length (Nat.le_refl _) (fun k h1 h2=>by omega)
   rw[List.take_length]at this;exact this
  rw[hc]
  exact a5 t34 (fn:=f115) (by kernel_rfl) (by kernel_rfl) (O7 v) (by simp[hs]) (by simp) (fun c _=>aF.nil)
 ·have g:=a5L v o1
  have sp:=HU v
  cases hr:dO (xR v) (v.length-1) 0 ()with
  |inl u=>
   rw[hr]at g sp
   dsimp only at g sp
   rw[sp]
   exact a5 t34 (fn:=f115) (by kernel_rfl) (by kernel_rfl) (O8 v) (by simp[hs]) (by simp) (fun cc hc=>aF.cons (c:=cc) (by cases hc;kernel_rfl) (by cases hc;exact g) aF.nil)
  |inr c=>
   rw[hr]at g sp
   dsimp only at g sp
   obtain⟨s1,s2,s3⟩:=sp
   have mm:=a5 (f:=131) t34 (fn:=f115) (by kernel_rfl) (by kernel_rfl) (O9 v c.1 c.2) (by simp[hs]) (by simp) (fun cc hc=>aF.cons (c:=cc) (by cases hc;kernel_rfl) (by cases hc;exact g) aF.nil)
   have hlen:(jT v).length=c.2:=by rw[←s3,List.length_take];omega
   rw[hlen]
   refine mm.slots ⟨?_,trivial⟩
   have h6:(List.take c.2 c.1++(List.replicate (v.length-c.2) 0++List.drop (c.2+(v.length-c.2)) c.1)).take c.2=jT v:=by
    rw[List.take_append_of_le_length (by rw[List.length_take];omega),List.take_take,Nat.min_self];exact s3
   rw[←h6]
   exact cA.take _ _ _
noncomputable def T35:List bF:=[⟨129,[0],BV⟩,⟨130,[0],GN⟩,⟨131,[0],oR⟩]++T34
theorem e35:a8 Tryz.prog T35:=by
 refine a8.append ?_ e34
 intro e he
 simp only[List.mem_cons,List.not_mem_nil,or_false]at he
 rcases he with rfl|rfl|rfl
 ·exact a6F
 ·exact a6G
 ·exact a6H
theorem t35:bN Tryz.prog (aB T35):=aP e35
noncomputable abbrev f66:=Tryz.f80
noncomputable def I66 (k:Int) (a b:List Int) (c:List Bool) (v:List Int) (n:Nat) (out:List Int) (i:Int):St:=
 bA f66.ntmps [(1,.c (.ptr 0 0 0 0)),(3,.c (.sl 1 0 n 1 none)),(9,.c (.sl 2 0 v.length 1 none)),(10,.c (.int .i64 v.length)),(11,.c (.int .i64 i))]
  [.live (.cells [.int .i64 k,.view none (.ints .i64 a) a.length 1 none,.view none (.ints .i64 b) b.length 1 none,.view none (.bools c) c.length 1 none]),.live (.ints .i64 out),.live (.ints .i64 v)]
noncomputable def X66 (n:Nat) (out:List Int):St:=bA f66.ntmps [(3,.c (.sl 0 0 n 1 none))] [.live (.ints .i64 out)]
theorem ZT (k:Int) (a b:List Int) (c:List Bool) (v:List Int) (n:Nat) (out:List Int) (i:Int):aH 0 (aA f66 0) (aD f66 0) (aK tt (aB T35) ([]) 0 100 (a6 0 (a7 f66)) (I66 k a b c v n out i) [(0,true)])=
  some (.normal,(decide (i<(↑v.length:Int))&&(decide (0≤i)&&(decide (i<(↑v.length:Int))&&(decide (i.toNat<v.length)&&(decide (0≤v.getD i.toNat 0)&&(decide (v.getD i.toNat 0<(↑b.length:Int))&&(decide ((v.getD i.toNat 0).toNat<b.length)&&(decide (n=out.length)&&((decide (n+1≤274877906944))&&true))))))))),[],I66 k a b c v (n+1) (out++[b.getD (v.getD i.toNat 0).toNat 0]) (IntKind.i64.wrap (i+1))):=by kernel_rfl
theorem ZU (k:Int) (a b:List Int) (c:List Bool) (v:List Int) (n:Nat) (out:List Int) (i:Int):aH 0 (aA f66 0) (aD f66 0) (aK tt (aB T35) ([]) 0 100 (a6 0 (a7 f66)) (I66 k a b c v n out i) [(0,false)])=
  some (.exit 0,((!decide (i<(↑v.length:Int)))&&true),[],X66 (n) (out)):=by kernel_rfl
def jZ (b v:List Int) (i:Nat) (out:List Int):List Int:=out++[b.getD (v.getD i 0).toNat 0]
def cO (b v:List Int):List Int:=bP (jZ b v) v.length 0 []
def bJ (b:List Int) (c:List Bool):List Int:=jT (jL (cW (cO b (flg c))))
theorem a33 (k:Int) (a b:List Int) (c:List Bool):aG tt (aB T35) ([(0,⟨aA f66 0,I66 k a b c (flg c) 0 [] 0,.normal,X66 (cO b (flg c)).length (cO b (flg c))⟩)]) 100 f66 [.agg [.int .i64 k,.view none (.ints .i64 a) a.length 1 none,.view none (.ints .i64 b) b.length 1 none,.view none (.bools c) c.length 1 none]] [] []=
  some ⟨.c (.sl 0 0 (jT (jL (cW (cO b (flg c))))).length 1 none),[.live (.ints .i64 (jT (jL (cW (cO b (flg c))))))],(decide (c.length≤274877906944)&&(decide ((cO b (flg c)).length≤8)&&(decide ((cO b (flg c)).length=(cO b (flg c)).length)&&(decide ((cW (cO b (flg c))).length≤274877906944)&&(decide ((cO b (flg c)).length=(cW (cO b (flg c))).length)&&(decide ((jL (cW (cO b (flg c)))).length≤274877906944)&&((decide ((cO b (flg c)).length=(jL (cW (cO b (flg c)))).length))&&true))))))),[I66 k a b c (flg c) 0 [] 0=I66 k a b c (flg c) 0 [] 0]⟩:=by kernel_rfl
end
section
theorem pV (b v:List Int):(cO b v).length=v.length:=bH (step:=jZ b v) (fun i o=>o.length=i) v.length [] rfl fun i o _ h=>by simp[jZ,h]
theorem l66 (k:Int) (a b:List Int) (c:List Bool) (v:List Int) (hl:v.length≤8) (hp:dC v b.length=true):
  aW Tryz.prog 0 (.block 0 (.loop (a6 0 (a7 f66)))) (I66 k a b c v 0 [] 0) fun e t=>e=.normal∧t=X66 (cO b v).length (cO b v):=by
 refine(aW.count hT t35 bM v.length (fun i o=>o.length=i) (fun i o=>I66 k a b c v o.length o i) (fun o=>X66 o.length o) (jZ b v) (aA f66 0) (aD f66 0)
  (fun _ _=>[]) (fun _ _ _ _=>aF.nil) (fun i o hi h=>⟨by simp[jZ,h], ?_⟩) (fun o h=>⟨_,_,⟨_,_,ZU k a b c v o.length o v.length,by simp,by simp⟩⟩)) [] rfl
 have hb:=hJ hp hi
 have e:=ZT k a b c v o.length o i
 rw[aE (by omega) (by omega),Int.toNat_natCast]at e
 have hlen:(jZ b v i o).length=o.length+1:=by simp[jZ]
 rw[hlen]
 refine⟨_,_,⟨_,_,e, ?_,by simp⟩⟩
 simp only[Bool.and_true,Bool.and_eq_true,decide_eq_true_eq,true_and,and_true]
 omega
theorem tR (v:List Int):(jL v).length=v.length:=bH (step:=yC v.length) (fun _ o=>o.length=v.length) _ v rfl fun i o _ h=>by simp[yC,h]
def C3:aQ:=fun args h=>
 match args,h with
 |[.agg [.int .i64 k,.view _ (.ints .i64 a) n1 1 _,.view _ (.ints .i64 b) n2 1 _,.view _ (.bools c) n3 1 _]],[]=>
  some (.c (.sl 0 0 (bJ b c).length 1 none),[.live (.ints .i64 (bJ b c))],[decide (c.length≤8),decide (b.length=c.length)])
 |_,_=>none
theorem m66:aV Tryz.prog 80 C3:=by
 intro args h res h' o hnorm he ho
 unfold C3 at he
 split at he
 case h_2=>cases he
 rename_i k nl1 a n1 cap1 nl2 b n2 cap2 nl3 c n3 cap3
 simp only[Option.some.injEq,Prod.mk.injEq]at he
 obtain⟨rfl,rfl,rfl⟩:=he
 simp only[List.mem_cons,List.not_mem_nil,or_false,forall_eq_or_imp,forall_eq,decide_eq_true_eq]at ho
 obtain⟨o1,o2⟩:=ho
 simp only[bG,AV.norm,bI,aJ.norm,Con.size,List.cons.injEq,AV.c.injEq,AV.agg.injEq,aJ.view.injEq,aN,true_and,and_true]at hnorm
 obtain⟨⟨rfl,rfl,rfl⟩,⟨rfl,rfl,rfl⟩,rfl,rfl,rfl⟩:=hnorm
 have h1:=nG c
 have g:=l66 k a b c (flg c) (by omega) (by rw[o2];exact mH c)
 exact a5 t35 (fn:=f66) (by kernel_rfl) (by kernel_rfl) (a33 k a b c) (by simp[pV,pR,tR];omega) (by simp) (fun cc hc=>aF.cons (c:=cc) (by cases hc;kernel_rfl) (by cases hc;exact g) aF.nil)
noncomputable def T36:List bF:=[⟨80,[],nm C3⟩]++T35
theorem e36:a8 Tryz.prog T36:=by
 refine a8.append ?_ e35
 intro e he
 simp only[List.mem_cons,List.not_mem_nil,or_false]at he
 subst he;exact m66.ok
theorem t36:bN Tryz.prog (aB T36):=aP e36
theorem a38 (k:Int) (a b:List Int) (c:List Bool):aG tt (aB T36) ([]) 100 Tryz.f69 [.agg [.int .i64 k,.view none (.ints .i64 a) a.length 1 none,.view none (.ints .i64 b) b.length 1 none,.view none (.bools c) c.length 1 none]] [] [(0,true)]=
  some ⟨.c (.int .i64 ((bJ b c).getD 0 0)),[],(decide (c.length≤8)&&(decide (b.length=c.length)&&(decide (0<(↑(bJ b c).length:Int))&&(decide (0<(↑(bJ b c).length:Int))&&((decide (0<(bJ b c).length))&&true))))),[]⟩:=by kernel_rfl
theorem a39 (k:Int) (a b:List Int) (c:List Bool):aG tt (aB T36) ([]) 100 Tryz.f69 [.agg [.int .i64 k,.view none (.ints .i64 a) a.length 1 none,.view none (.ints .i64 b) b.length 1 none,.view none (.bools c) c.length 1 none]] [] [(0,false)]=
  some ⟨.c (.int .i64 0),[],(decide (c.length≤8)&&(decide (b.length=c.length)&&((!decide (0<(↑(bJ b c).length:Int)))&&true))),[]⟩:=by kernel_rfl
def gE (b:List Int) (c:List Bool):Int:=(bJ b c).getD 0 0
def GV:aQ:=fun args h=>
 match args,h with
 |[.agg [.int .i64 k,.view _ (.ints .i64 a) n1 1 _,.view _ (.ints .i64 b) n2 1 _,.view _ (.bools c) n3 1 _]],[]=>
  some (.c (.int .i64 (gE b c)),[],[decide (c.length≤8),decide (b.length=c.length)])
 |_,_=>none
theorem m73:aV Tryz.prog 69 GV:=by
 intro args h res h' o hnorm he ho
 unfold GV at he
 split at he
 case h_2=>cases he
 rename_i k nl1 a n1 cap1 nl2 b n2 cap2 nl3 c n3 cap3
 simp only[Option.some.injEq,Prod.mk.injEq]at he
 obtain⟨rfl,rfl,rfl⟩:=he
 simp only[List.mem_cons,List.not_mem_nil,or_false,forall_eq_or_imp,forall_eq,decide_eq_true_eq]at ho
 obtain⟨o1,o2⟩:=ho
 simp only[bG,AV.norm,bI,aJ.norm,Con.size,List.cons.injEq,AV.c.injEq,AV.agg.injEq,aJ.view.injEq,aN,true_and,and_true]at hnorm
 obtain⟨⟨rfl,rfl,rfl⟩,⟨rfl,rfl,rfl⟩,rfl,rfl,rfl⟩:=hnorm
 by_cases h0:0<((bJ b c).length:Int)
 ·exact a5 t36 (by kernel_rfl) (by kernel_rfl) (a38 k a b c) (by simp only[Bool.and_eq_true,decide_eq_true_eq,Bool.and_true];omega) (by simp) (fun c _=>aF.nil)
 ·have hz:gE b c=0:=by
   have:bJ b c=[]:=List.eq_nil_of_length_eq_zero (by omega)
   unfold gE;rw[this];rfl
  rw[hz]
  exact a5 t36 (by kernel_rfl) (by kernel_rfl) (a39 k a b c) (by simp only[Bool.and_eq_true,decide_eq_true_eq,Bool.and_true,Bool.not_eq_true',decide_eq_false_iff_not];omega) (by simp) (fun c _=>aF.nil)
theorem a83:aS Tryz.prog 134 (dZ tt (aB T36) Tryz.f134 []):=d6 hT t36 bM [] (by kernel_rfl) (by kernel_rfl)
noncomputable def T37:List bF:=[⟨69,[],nm GV⟩,⟨134,[1],dZ tt (aB T36) Tryz.f134 []⟩]++T36
theorem e37:a8 Tryz.prog T37:=by
 refine a8.append ?_ e36
 intro e he
 simp only[List.mem_cons,List.not_mem_nil,or_false]at he
 rcases he with rfl|rfl
 ·exact m73.ok
 ·exact a83
theorem t37:bN Tryz.prog (aB T37):=aP e37
noncomputable abbrev fA:=Tryz.f176
noncomputable def jS (k:Int) (n1 n2 n3:Nat) (nl1 nl2 nl3:Option Bool) (cap1 cap2 cap3:Option Nat) (a b:List Int) (c:List Bool) (v:List Int) (i:Int):St:=
 bA fA.ntmps [(0,.c (.sl 0 0 v.length 1 none)),(1,.c (.fn 134 [.ptr 1 0 0 0])),(7,.c (.int .i64 v.length)),(8,.c (.int .i64 i))] [.live (.ints .i64 v),.live (.cells [.int .i64 k,.view nl1 (.ints .i64 a) n1 1 cap1,.view nl2 (.ints .i64 b) n2 1 cap2,.view nl3 (.bools c) n3 1 cap3])]
noncomputable def H5 (k:Int) (n1 n2 n3:Nat) (nl1 nl2 nl3:Option Bool) (cap1 cap2 cap3:Option Nat) (a b:List Int) (c:List Bool) (v:List Int):St:=bA fA.ntmps [] [.live (.ints .i64 v),.live (.cells [.int .i64 k,.view nl1 (.ints .i64 a) n1 1 cap1,.view nl2 (.ints .i64 b) n2 1 cap2,.view nl3 (.bools c) n3 1 cap3])]
noncomputable def HB (k:Int) (n1 n2 n3:Nat) (nl1 nl2 nl3:Option Bool) (cap1 cap2 cap3:Option Nat) (a b:List Int) (c:List Bool) (v:List Int) (i:Int):St:=bA fA.ntmps [(4,.c (.int .i64 i))] [.live (.ints .i64 v),.live (.cells [.int .i64 k,.view nl1 (.ints .i64 a) n1 1 cap1,.view nl2 (.ints .i64 b) n2 1 cap2,.view nl3 (.bools c) n3 1 cap3])]
theorem N8 (k:Int) (n1 n2 n3:Nat) (nl1 nl2 nl3:Option Bool) (cap1 cap2 cap3:Option Nat) (a b:List Int) (c:List Bool) (v:List Int) (i:Int):aH 2 (aA fA 0) (aD fA 0) (aK tt (aB T37) ([]) 2 100 (a6 0 (a7 fA)) (jS k n1 n2 n3 nl1 nl2 nl3 cap1 cap2 cap3 a b c v i) [(0,true),(0,true)])=
  some (.ret,(decide (i<(↑v.length:Int))&&(decide (0≤i)&&(decide (i<(↑v.length:Int))&&(decide (i.toNat<v.length)&&((decide (c.length≤274877906944)&&(decide (b.length=c.length)&&(decide ((ofL b c (v.getD i.toNat 0)).length=(ofL b c (v.getD i.toNat 0)).length)&&(decide ((ofL b c (v.getD i.toNat 0)).length≤8)&&(bet k 1 2&&(aM (ofL b c (v.getD i.toNat 0))&&(decide (a.length=8)&&(a9 a&&(dU k a (ofL b c (v.getD i.toNat 0))&&true)))))))))&&((!cJ k a (ofL b c (v.getD i.toNat 0)))&&true)))))),[],HB k n1 n2 n3 nl1 nl2 nl3 cap1 cap2 cap3 a b c v (i)):=by kernel_rfl
theorem N9 (k:Int) (n1 n2 n3:Nat) (nl1 nl2 nl3:Option Bool) (cap1 cap2 cap3:Option Nat) (a b:List Int) (c:List Bool) (v:List Int) (i:Int):aH 2 (aA fA 0) (aD fA 0) (aK tt (aB T37) ([]) 2 100 (a6 0 (a7 fA)) (jS k n1 n2 n3 nl1 nl2 nl3 cap1 cap2 cap3 a b c v i) [(0,true),(0,false)])=
  some (.normal,(decide (i<(↑v.length:Int))&&(decide (0≤i)&&(decide (i<(↑v.length:Int))&&(decide (i.toNat<v.length)&&((decide (c.length≤274877906944)&&(decide (b.length=c.length)&&(decide ((ofL b c (v.getD i.toNat 0)).length=(ofL b c (v.getD i.toNat 0)).length)&&(decide ((ofL b c (v.getD i.toNat 0)).length≤8)&&(bet k 1 2&&(aM (ofL b c (v.getD i.toNat 0))&&(decide (a.length=8)&&(a9 a&&(dU k a (ofL b c (v.getD i.toNat 0))&&true)))))))))&&((!!cJ k a (ofL b c (v.getD i.toNat 0)))&&true)))))),[],jS k n1 n2 n3 nl1 nl2 nl3 cap1 cap2 cap3 a b c v (IntKind.i64.wrap (i+1))):=by kernel_rfl
theorem NA (k:Int) (n1 n2 n3:Nat) (nl1 nl2 nl3:Option Bool) (cap1 cap2 cap3:Option Nat) (a b:List Int) (c:List Bool) (v:List Int) (i:Int):aH 2 (aA fA 0) (aD fA 0) (aK tt (aB T37) ([]) 2 100 (a6 0 (a7 fA)) (jS k n1 n2 n3 nl1 nl2 nl3 cap1 cap2 cap3 a b c v i) [(0,false)])=
  some (.exit 0,((!decide (i<(↑v.length:Int)))&&true),[],H5 k n1 n2 n3 nl1 nl2 nl3 cap1 cap2 cap3 a b c v):=by kernel_rfl
noncomputable def P7 (k:Int) (n1 n2 n3:Nat) (nl1 nl2 nl3:Option Bool) (cap1 cap2 cap3:Option Nat) (a b:List Int) (c:List Bool) (v:List Int):Option Nat→St
 |some j=>HB k n1 n2 n3 nl1 nl2 nl3 cap1 cap2 cap3 a b c v j
 |none=>H5 k n1 n2 n3 nl1 nl2 nl3 cap1 cap2 cap3 a b c v
theorem XE (k:Int) (n1 n2 n3:Nat) (nl1 nl2 nl3:Option Bool) (cap1 cap2 cap3:Option Nat) (a b:List Int) (c:List Bool) (v:List Int) (hl:v.length≤274877906944) (hc:c.length≤274877906944) (hbc:b.length=c.length) (hkd:bet k 1 2=true) (ha:a.length=8) (haf:a9 a=true) (hok: ∀i,i<v.length→(ofL b c (v.getD i 0)).length≤8∧aM (ofL b c (v.getD i 0))=true∧dU k a (ofL b c (v.getD i 0))=true):
  aW Tryz.prog 2 (.block 0 (.loop (a6 0 (a7 fA)))) (jS k n1 n2 n3 nl1 nl2 nl3 cap1 cap2 cap3 a b c v 0) fun e t=>e=r9 (dV (fun x=> !cJ k a (ofL b c x)) v)∧t=P7 k n1 n2 n3 nl1 nl2 nl3 cap1 cap2 cap3 a b c v (dV (fun x=> !cJ k a (ofL b c x)) v):=by
 refine aW.roundsR hT t37 bM (m:=2) (id:=0) (body:=a6 0 (a7 fA)) (α:=Nat)
  (fun i=>i≤v.length∧dE (fun x=> !cJ k a (ofL b c x)) v (v.length-i) i=dV (fun x=> !cJ k a (ofL b c x)) v) (fun i=>jS k n1 n2 n3 nl1 nl2 nl3 cap1 cap2 cap3 a b c v i) (fun i=>v.length-i) (aA fA 0) (aD fA 0)
  (fun _=>r9 (dV (fun x=> !cJ k a (ofL b c x)) v)) (fun _=>P7 k n1 n2 n3 nl1 nl2 nl3 cap1 cap2 cap3 a b c v (dV (fun x=> !cJ k a (ofL b c x)) v)) (fun _=>[]) (fun _ _=>aF.nil) (fun i hx=> ?_) 0 ⟨by simp,rfl⟩
 obtain⟨h1,h3⟩:=hx
 by_cases hi:i<v.length
 ·have hk:v.length-i=(v.length-(i+1))+1:=by omega
  rw[hk]at h3
  simp only[dE]at h3
  obtain⟨ho1,ho2,ho3⟩:=hok i hi
  cases hz:(fun x=> !cJ k a (ofL b c x)) (v.getD i 0)with
  |false=>
   dsimp only at hz
   rw[hz]at h3
   have e:=N9 k n1 n2 n3 nl1 nl2 nl3 cap1 cap2 cap3 a b c v i
   rw[aE (by omega) (by omega),Int.toNat_natCast]at e
   refine⟨_,_,_,_,_,_,e, ?_,by simp,.inl ⟨rfl,i+1,⟨by omega,by simpa using h3⟩,by omega,rfl,rfl,rfl⟩⟩
   simp only[hz,ho2,ho3,hkd,haf,Bool.not_false,Bool.true_and,Bool.and_true,Bool.and_eq_true,decide_eq_true_eq,true_and,and_true]
   omega
  |true=>
   dsimp only at hz
   rw[hz]at h3
   simp only[cond_true]at h3
   have e:=N8 k n1 n2 n3 nl1 nl2 nl3 cap1 cap2 cap3 a b c v i
   rw[Int.toNat_natCast]at e
   refine⟨_,_,_,_,_,_,e, ?_,by simp,.inr (.inr ⟨by simp,by simp, ?_, ?_⟩)⟩
   ·simp only[hz,ho2,ho3,hkd,haf,Bool.true_and,Bool.and_true,Bool.and_eq_true,decide_eq_true_eq,true_and,and_true]
    omega
   ·rw[←h3];rfl
   ·rw[←h3];rfl
 ·have hz:v.length-i=0:=by omega
  rw[hz]at h3
  simp only[dE]at h3
  exact⟨_,_,_,_,_,_,NA k n1 n2 n3 nl1 nl2 nl3 cap1 cap2 cap3 a b c v i,by simp;omega,by simp,.inr (.inl ⟨rfl,by rw[←h3];rfl,by rw[←h3];rfl⟩)⟩
end
section
theorem AE {β γ:Type} {s:Nat→β→β} {s':Nat→γ→γ} (R:Nat→β→γ→Prop): ∀(f i:Nat) (b:β) (c:γ),R i b c→(∀k b c,i≤k→k<i+f→R k b c→R (k+1) (s k b) (s' k c))→R (i+f) (bP s f i b) (bP s' f i c)
 |0,i,b,c,h,_=>h
 |f+1,i,b,c,h,hs=>by
  have:=AE (s:=s) (s':=s') R f (i+1) (s i b) (s' i c) (hs i b c (Nat.le_refl _) (by omega) h) (fun k b c h1 h2=>hs k b c (by omega) (by omega))
  rw[show i+(f+1)=i+1+f from by omega]
  exact this
theorem wC {β γ:Type} {s:Nat→β→β} {s':Nat→γ→γ} (R:Nat→β→γ→Prop) (n:Nat) (b:β) (c:γ) (h:R 0 b c) (hs: ∀k b c,k<n→R k b c→R (k+1) (s k b) (s' k c)):R n (bP s n 0 b) (bP s' n 0 c):=by
 have:=AE R n 0 b c h (fun k b c _ h2=>hs k b c (by omega))
 rwa[Nat.zero_add]at this
def fS (n:Nat) (zs zs':List Int):Prop:=zs.length=n*5∧zs'.length=n*5∧ ∀j,j<n→ ∀q,q<4→zs.getD (j*5+q) 0=zs'.getD (j*5+q) 0
theorem fS.ld {n:Nat} {zs zs':List Int} (h:fS n zs zs') {i:Nat} (hi:i<n):ld5 zs i=ld5 zs' i:=by
 unfold ld5
 have h0:=h.2.2 i hi 0 (by omega)
 rw[Nat.add_zero]at h0
 rw[h0,h.2.2 i hi 1 (by omega),h.2.2 i hi 2 (by omega),h.2.2 i hi 3 (by omega)]
theorem D8 (w w' v ys:List Int) (r:Nat):fS r (m6 w v ys r) (m6 w' v ys r):=by
 refine wC (fun i zs zs'=>fS i zs zs') r [] [] ⟨rfl,rfl,fun j hj=>by omega⟩ fun k zs zs' hk h=> ?_
 obtain⟨h1,h2,h3⟩:=h
 refine⟨by simp[jY,h1];omega,by simp[jY,h2];omega,fun j hj q hq=> ?_⟩
 unfold jY
 rw[dY,dY,h1,h2]
 by_cases e:j*5+q<k*5
 ·rw[if_pos e,if_pos e];exact h3 j (by omega) q hq
 ·rw[if_neg e,if_neg e]
  have:j=k:=by omega
  subst this
  rw[show j*5+q-j*5=q from by omega]
  match q,hq with
  |0,_|1,_|2,_|3,_=>rfl
theorem gY {n:Nat} {zs:List Int} (hz:zs.length=n*5) {i j:Nat} {at_:Int} (hj:j<n) {p q:Nat} (hp:p<n) (hq:q<4):
  (nC zs i at_ j).getD (p*5+q) 0=if p=j then elE zs i j at_ q else zs.getD (p*5+q) 0:=by
 unfold nC lQ K7
 by_cases e:p=j
 ·subst e
  rw[if_pos rfl]
  match q,hq with
  |0,_=>
   rw[aX,if_neg (by omega),aX,if_neg (by omega),aX,if_neg (by omega),aX,if_neg (by omega),aX,if_pos ⟨by omega,by omega⟩]
  |1,_=>
   rw[aX,if_neg (by omega),aX,if_neg (by omega),aX,if_neg (by omega),aX,if_pos ⟨by omega,by simp;omega⟩]
  |2,_=>
   rw[aX,if_neg (by omega),aX,if_neg (by omega),aX,if_pos ⟨by omega,by simp;omega⟩]
  |3,_=>
   rw[aX,if_neg (by omega),aX,if_pos ⟨by omega,by simp;omega⟩]
 ·rw[if_neg e]
  rw[aX,if_neg (by omega),aX,if_neg (by omega),aX,if_neg (by omega),aX,if_neg (by omega),aX,if_neg (by omega)]
theorem CI {n i j:Nat} {at_:Int} {zs zs':List Int} (h:fS n zs zs') (hi:i<n) (hj:j<n) (ha:bet at_ 0 3=true):fS n (jV i at_ j zs) (jV i at_ j zs'):=by
 have ha':=b8.1 ha
 obtain⟨h1,h2,h3⟩:=h
 have hc:elC zs at_ j=elC zs' at_ j:=by
  unfold elC
  rw[Nat.mul_one]
  exact h3 j hj _ (by omega)
 unfold jV
 rw[hc]
 cases ((j:Int)!=(i:Int))&&(elC zs' at_ j !=0)
 ·exact⟨h1,h2,h3⟩
 ·refine⟨by rw[cond_true,l3];exact h1,by rw[cond_true,l3];exact h2,fun p hp q hq=> ?_⟩
  rw[cond_true,cond_true,gY h1 hj hp hq,gY h2 hj hp hq]
  split
  ·unfold elE;rw[h3 j hj q hq,h3 i hi q hq,hc]
  ·exact h3 p hp q hq
theorem CG {n i:Nat} {at_:Int} {zs zs':List Int} (h:fS n zs zs') (hi:i<n) (ha:bet at_ 0 3=true):fS n (vM n i at_ zs) (vM n i at_ zs'):=
 wC (fun _ zs zs'=>fS n zs zs') n zs zs' h fun j zs zs' hj h=>CI h hi hj ha
theorem nY {n:Nat}: ∀(f i:Nat) {zs zs':List Int},fS n zs zs'→i+f≤n→i8 n f i zs'=true→i8 n f i zs=true∧fS n (bP (lM n) f i zs) (bP (lM n) f i zs')
 |0,i,zs,zs',h,_,_=>⟨rfl,h⟩
 |f+1,i,zs,zs',h,hi,hr=>by
  simp only[i8,Bool.and_eq_true]at hr⊢
  have hl:=h.ld (i:=i) (by omega)
  have h':fS n (lM n i zs) (lM n i zs'):=by
   unfold lM;rw[hl];exact CG h (by omega) hr.1
  have:=nY f (i+1) h' (by omega) hr.2
  rw[hl]
  exact⟨⟨hr.1,this.1⟩,this.2⟩
theorem u7 {k:Int} {w w' v:List Int} (h:dU k w' v=true):dU k w v=true∧fS (spK k v).2.length (eO k w v) (eO k w' v):=by
 simp only[dU,Bool.and_eq_true,JV]at h⊢
 have t:=D8 w w' v (spK k v).1 (spK k v).2.length
 have r:=nY _ 0 t (by omega) h.1
 refine⟨⟨r.1, ?_⟩,r.2⟩
 refine mY fun i hi=> ?_
 have hl:=fS.ld (zs:=eO k w v) (zs':=eO k w' v) r.2 hi
 rw[hl]
 exact aY h.2 i hi
def dA (m:Nat):List Bool:=[m.testBit 0,m.testBit 1,m.testBit 2,m.testBit 3,m.testBit 4,m.testBit 5,m.testBit 6,m.testBit 7]
def z8:List Int:=[0,0,0,0,0,0,0,0]
def yZ (b:Bool) (n:Nat):Nat:=bif b then n else 0
theorem nR (c:List Bool) (h:c.length=8): ∃m,m<256∧dA m=c:=by
 match c,h with
 |[a,b,c,d,e,f,g,h],_=>
  refine⟨yZ a 1+yZ b 2+yZ c 4+yZ d 8+yZ e 16+yZ f 32+yZ g 64+yZ h 128, ?_, ?_⟩
  ·cases a<;>cases b<;>cases c<;>cases d<;>cases e<;>cases f<;>cases g<;>cases h<;>decide
  ·cases a<;>cases b<;>cases c<;>cases d<;>cases e<;>cases f<;>cases g<;>cases h<;>decide
end
end Go.Proofs.YthapjdpkelihiaaGreat.Am
